/- The functions of the program as Lean functions, and that the evaluator says so. -/
import Derived.Test.YtjenflkegbmkkaaGreatDoorC13
set_option linter.unusedVariables false
set_option linter.unusedSimpArgs false
set_option linter.unusedSectionVars false
open Int renaming toNat→ga
open List renaming length→fa
section
set_option maxRecDepth 100000
namespace Go.U
open Go Go.Proofs
noncomputable section
variable {C:V.Callee}
def kO:FS (Ba×Int×(List (List Int))) (Y3) where
 sk:=⟨(.cons (.agg tc) (.cons (.all 0) (.cons (.int .i64) .nil))),[.cells (.slice (.int .i64))],0⟩
 a:=fun u=>((q8 u.1.1),u.1.2.2.1,u.2.1)
 n:=fun a=>(((w8 a.1),((),(a.2.1,()))),(a.2.2,()))
 o:=fun Z a r K=>K (.agg [.all 1,.all 2,.all 3]) ⟨[.cells (.slice (.int .i64)) a.2.2,.cells .bool r.1,.cells (.pair .bool .bool) r.2.1,.cells ja r.2.2],0⟩
def Ju:LD (Int×Int×Ba×(List (List Int))) (zO) (Y3) where
 sk:=⟨[(2,.v (.int .i64)),(3,.loc 0 0),(6,.loc 1 0),(7,.loc 2 0),(15,.v (.all 0)),(16,.v (.int .i64)),(17,.v (.int .i64))],[tc,(.cons .Wa (.cons .Wa (.cons .Wa .nil))),(.cons (.all 1) (.cons (.all 2) (.cons (.all 3) .nil)))],[.cells (.slice (.int .i64)),.cells .bool,.cells (.pair .bool .bool),.cells ja],0,1⟩
 p:=fun u=>(u.1.1,u.1.2.2.1,(q8 u.2.1.1),u.2.2.1)
 t:=fun u=>(u.1.t3.1,u.t3.1,u.t4.1,u.t5.1)
 n:=fun p t=>((p.1,((),(p.2.1,(t.1,())))),(((w8 p.2.2.1),(((),((),((),()))),(((),((),((),()))),()))),(p.t3,(w3 t.2))))
 st:=fun Y p t ki ke=>cond (decide (t.1<p.2.1))
  (ask (V.va t.1 (fa p.2.2.2)) ((Lx (p.2.2.1,(gx p.2.2.2 (ga t.1) []),p.1)).bind fun r1=>
  (Sr (r1.1,t.2.1,t.2.2.1,t.2.2.2)).bind fun r2=>
  ki ((Ga (t.1+(1:Int))),r2.1,r2.2.1,r2.2.2)))
  (ke ((t.2.1,t.2.2.1,t.2.2.2)))
 o:=fun Z p e K=>K (.exit 0) ⟨[(6,.loc 0 0),(7,.loc 1 0)],[[.Wa,.Wa,.Wa],[.all 1,.all 2,.all 3]],⟨[.cells (.slice (.int .i64)) p.t3,.cells .bool e.1,.cells (.pair .bool .bool) e.2.1,.cells ja e.2.2],0⟩,1⟩
 Je:=⟨[2,3,6,7,15,16,17],[],[],[]⟩
 pe:=[(.exit 0,⟨[6,7],[],[],[]⟩)]
def cG {X:Type} (a:Ba×Int×(List (List Int))) (K:Y3->Option X):Option X:=
 (Tr a.1).bind fun r1=>
 (Oa (Ju.m (a.2.1,(nt (fa a.2.2)),a.1,a.2.2)) (0,r1.1,r1.2.1,r1.2.2)).bind fun e2=>
 K (e2.1,e2.2.1,e2.2.2)
def Yq:=fun a=>cG a some
def YX:Spec:=kO.sp Yq
noncomputable def bG:Env:=⟨fun k=>[].contains k,Cb [(14,YF),(37,mL),(23,wL)],fun X k s K=>if k=3 then Ju.q X s K else none⟩
noncomputable def EL:Code:=Lb [1,1,0,1,0,0] (vb Tryz.f12)
theorem II (hc:Sa C bG.call):Va bG.loop (vc par C true [3,6,7,10,11] 34) (.loop EL):=
 lO hc Ju (by intros;simp only [Ju,LD.m,nn])
theorem ZX:OK (7) 12 (kO.sp Yq):=
 fO (d:=6) (env:=bG) (Aa (cc ZF (cc nL (cc xL cn)))) (fn:=Tryz.f12) (mc:=@cG) (by intros;simp only [Yq,cG,nn]) (za:=[3,6,7,10,11]) (sh:=(.agg [(.own .bool),(.own (.pair .bool .bool)),(.own ja)])) (hl:=fun hc=>(Yc (by kernel_rfl) (Db (II hc) Bc)))
def iae:FS (Y31) (Bool) where
 sk:=⟨(.cons (.agg tc) (.cons (.lit (.slice (.int .i64))) (.cons (.int .i64) .nil))),[],0⟩
 a:=fun u=>((q8 u.1.1),u.1.2.1,u.1.2.2.1)
 n:=fun a=>(((w8 a.1),(a.2.1,(a.2.2,()))),())
 o:=fun Z a r K=>K (.bool r) ⟨[],0⟩
def Ix:LD ((List (List Int))×Int×(List Int)×Ba) (Y6) ((Unit) ⊕ ((List (List Int)))) where
 sk:=⟨[(1,.v (.lit (.slice (.int .i64)))),(2,.v (.int .i64)),(3,.loc 0 0),(7,.v (.lit (.int .i64))),(8,.v (.all 0)),(9,.v (.int .i64))],[tc],[.cells (.slice (.int .i64))],0,0⟩
 p:=fun u=>(u.1.1,u.1.2.1,u.1.2.2.1,(q8 u.2.1.1))
 t:=fun u=>(u.1.t4.1,u.2.2.1)
 n:=fun p t=>((p.1,(p.2.1,(p.2.2.1,((),(t.1,()))))),(((w8 p.t3),()),(t.2,())))
 st:=fun Y p t ki ke=>cond (decide (t.1<(nt (fa p.2.2.1))))
  (ask (V.va t.1 (fa p.2.2.1)) (cond (decide ((gx p.2.2.1 (ga t.1) (0:Int))<(0:Int)))
  (ke (.inl ()))
  (ask (V.va t.1 (fa p.2.2.1)) (cond (decide ((nt (fa p.1))<=(gx p.2.2.1 (ga t.1) (0:Int))))
  (ke (.inl ()))
  (cond (decide ((0:Int)<t.1))
  (ask (V.va (Ga (t.1-(1:Int))) (fa p.2.2.1)) (ask (V.va t.1 (fa p.2.2.1)) (cond (decide ((gx p.2.2.1 (ga t.1) (0:Int))<=(gx p.2.2.1 (ga (Ga (t.1-(1:Int)))) (0:Int))))
  (ke (.inl ()))
  (ask (V.va t.1 (fa p.2.2.1)) (ask (V.va (gx p.2.2.1 (ga t.1) (0:Int)) (fa p.1)) (ask (decide (((fa t.2)+(fa ([(gx p.1 (ga (gx p.2.2.1 (ga t.1) (0:Int))) [])]:List (List Int)))) * 24<=70368744177664)&&decide (((fa t.2)+(fa ([(gx p.1 (ga (gx p.2.2.1 (ga t.1) (0:Int))) [])]:List (List Int))))<9223372036854775808)) (ki ((Ga (t.1+(1:Int))),(t.2++([(gx p.1 (ga (gx p.2.2.1 (ga t.1) (0:Int))) [])]:List (List Int)))))))))))
  (ask (V.va t.1 (fa p.2.2.1)) (ask (V.va (gx p.2.2.1 (ga t.1) (0:Int)) (fa p.1)) (ask (decide (((fa t.2)+(fa ([(gx p.1 (ga (gx p.2.2.1 (ga t.1) (0:Int))) [])]:List (List Int)))) * 24<=70368744177664)&&decide (((fa t.2)+(fa ([(gx p.1 (ga (gx p.2.2.1 (ga t.1) (0:Int))) [])]:List (List Int))))<9223372036854775808)) (ki ((Ga (t.1+(1:Int))),(t.2++([(gx p.1 (ga (gx p.2.2.1 (ga t.1) (0:Int))) [])]:List (List Int)))))))))))))
  (ke (.inr (t.2)))
 o:=fun Z p e K=>Sum.elim (fun e=>K .ret ⟨[(6,.v (.bool false))],[],⟨[],0⟩,0⟩) (fun e=>K (.exit 0) ⟨[(1,.v (.lit (.slice (.int .i64)) p.1)),(2,.v (.int .i64 p.2.1)),(3,.loc 0 0),(8,.v (.all 0))],[[.lit zb p.t3.1,.int .i64 p.t4.1,.int .i64 p.t5.1,.int .i64 p.t6.1,.lit Na p.t7.1,.lit yb p.t8.1,.lit Na p.t9.1,.lit ja p.t10]],⟨[.cells (.slice (.int .i64)) e],0⟩,0⟩) e
 Je:=⟨[1,2,3,7,8,9],[(8,(.own (.slice (.int .i64))))],[],[]⟩
 pe:=[(.ret,⟨[6],[],[],[]⟩),(.exit 0,⟨[1,2,3,8],[],[],[]⟩)]
def zp:LD (Int×Ba×(List (List Int))×Pa) (Int) ((Unit) ⊕ (Unit)) where
 sk:=⟨[(2,.v (.int .i64)),(3,.loc 0 0),(8,.v (.all 0)),(10,.loc 1 0),(11,.v (.int .i64))],[tc,(.cons (.all 1) (.cons (.all 2) (.cons (.all 3) .nil)))],[.cells (.slice (.int .i64)),.cells .bool,.cells (.pair .bool .bool),.cells ja],0,0⟩
 p:=fun u=>(u.1.1,(q8 u.2.1.1),u.2.2.1,(q3 u.t3))
 t:=fun u=>u.1.2.2.1
 n:=fun p t=>((p.1,((),(t,()))),(((w8 p.2.1),(((),((),((),()))),())),(w4 p.2.2)))
 st:=fun Y p t ki ke=>cond (decide (t<(nt (fa p.2.2.1))))
  (ask (decide (0<=(0:Int))&&decide ((0:Int)<=t)&&decide (t<=(nt (fa p.2.2.1)))) (ask (decide ((fa (Vi 0 (ga t-0) p.2.2.1)) * 24<=70368744177664)&&decide ((fa (Vi 0 (ga t-0) p.2.2.1))<9223372036854775808)) (ask (decide (0<=(Ga (t+(1:Int))))&&decide ((Ga (t+(1:Int)))<=(nt (fa p.2.2.1)))&&decide ((nt (fa p.2.2.1))<=(nt (fa p.2.2.1)))) (ask (decide (((fa (Vi 0 (ga t-0) p.2.2.1))+(fa (Vi (ga (Ga (t+(1:Int)))) (ga (nt (fa p.2.2.1))-(ga (Ga (t+(1:Int))))) p.2.2.1))) * 24<=70368744177664)&&decide (((fa (Vi 0 (ga t-0) p.2.2.1))+(fa (Vi (ga (Ga (t+(1:Int)))) (ga (nt (fa p.2.2.1))-(ga (Ga (t+(1:Int))))) p.2.2.1)))<9223372036854775808)) ((Yq (p.2.1,p.1,((Vi 0 (ga t-0) p.2.2.1)++(Vi (ga (Ga (t+(1:Int)))) (ga (nt (fa p.2.2.1))-(ga (Ga (t+(1:Int))))) p.2.2.1)))).bind fun r1=>
  (Rp (r1.1,r1.2.1,r1.2.2)).bind fun r2=>
  (Rp (p.2.2.2.1,p.2.2.2.2.1,p.2.2.2.2.2)).bind fun r3=>
  cond (decide (r3<=r2))
  (ke (.inl ()))
  (ki ((Ga (t+(1:Int))))))))))
  (ke (.inr (())))
 o:=fun Z p e K=>Sum.elim (fun e=>K .ret ⟨[(6,.v (.bool false))],[],⟨[],0⟩,0⟩) (fun e=>K (.exit 2) ⟨[],[],⟨[],0⟩,0⟩) e
 Je:=⟨[2,3,8,10,11],[],[],[]⟩
 pe:=[(.ret,⟨[6],[],[],[]⟩),(.exit 2,⟨[],[],[],[]⟩)]
def C3 {X:Type} (a:Y31) (K:Bool->Option X):Option X:=
 (aQ a.1).bind fun r1=>
 cond (!r1)
 ((UP ()).bind fun r2=>
 K r2)
 ((HD a.2.2).bind fun r3=>
 (Mx (a.1,a.2.1,r3)).bind fun r4=>
 (Oa (Ix.m (a.2.1,r3,r4,a.1)) (0,[])).bind fun e5=>
 Sum.elim (fun e6=>K false)
 (fun e7=>(jo (a.1,a.2.1,r3)).bind fun r8=>
 (Yq (a.1,r3,e7)).bind fun r9=>
 (CD (r9.1,r9.2.1,r9.2.2,r8.1,r8.2.1,r8.2.2)).bind fun Q4=>
 cond (!Q4)
 (K false)
 ((Oa (zp.m (r3,a.1,e7,r8)) 0).bind fun sO=>
 Sum.elim (fun DR=>K false)
 (fun CR=>(UP ()).bind fun r14=>
 K r14) sO)) e5)
def BK:=fun a=>C3 a some
def u6:Spec:=iae.sp BK
noncomputable def mW:Env:=⟨fun k=>[].contains k,Cb [(8,Uad),(9,Rad),(10,Iaa),(21,KX),(12,(alt bY.tk aY YX)),(13,Faa),(18,QX)],fun X k s K=>if k=7 then Ix.q X s K else if k=16 then zp.q X s K else none⟩
noncomputable def B3:Code:=Lb [1,1,1,1,1,0,1,0,0] (vb Tryz.f6)
theorem kW (hc:Sa C mW.call):Va mW.loop (vc par C true [3,10] 106) (.loop B3):=
 lO hc Ix (by intros;simp only [Ix,LD.m,nn])
noncomputable def lW:Code:=Lb [1,1,1,1,1,1,1,1,0,1,0,0] (vb Tryz.f6)
theorem sQ (hc:Sa C mW.call):Va mW.loop (vc par C true [3,10] 106) (.loop lW):=
 lO hc zp (by intros;simp only [zp,LD.m,nn])
theorem jae:OK (9) 6 (iae.sp BK):=
 fO (d:=8) (env:=mW) (Aa (cc Wad (cc Tad (cc Jaa (cc LX (cA dY (cc ZX (cc Gaa (cc RX cn))))))))) (fn:=Tryz.f6) (mc:=@C3) (by intros;simp only [BK,C3,nn]) (za:=[3,10]) (hl:=fun hc=>(Yc (by kernel_rfl) (Db (kW hc) (Db (sQ hc) Bc))))
end
end Go.U
end
