/- The functions of the program as Lean functions, and that the evaluator says so. -/
import Derived.Test.YtjenflkegbmkkaaGreatDoorC5
set_option linter.unusedVariables false
set_option linter.unusedSimpArgs false
set_option linter.unusedSectionVars false
open Int renaming toNat→fa
open List renaming length→da,set→Qa
section
set_option maxRecDepth 100000
namespace Go.U
open Go Go.Proofs
noncomputable section
variable {C:V.Callee}
def P9:FS (Y4) (vb×Zq×Int)where
 sk:=⟨(cL [(.agg jb),(.lit .i),.i]),[],0⟩
 a:=fun u=>((q8 u.1.1),u.1.2.1,u.1.2.2.1)
 o:=fun Z a r K=>kv K (.Sc (cL [(.agg Kd),(.agg zV),.i])) [] 0 ((r.1.1,r.1.2.1,r.1.2.2,()),(r7 r.2.1 (r.2.1.t7,())),r.2.2,()) ()
def CP{X:Type}(a:Y4)(K:(vb×Zq×Int)->Option X):Option X:=
 (Nt a.1).bind fun r1=>
 (WB (a.1,a.2.1,a.2.2,(-1),r1.1,r1.2.1,r1.2.2,0,a.1)).bind fun r2=>
 cond (decide (r2.1=(1:Int)))
 (K ((r2.2.2.2.2.2.2.2.1,(r2.2.2.2.2.2.2.2.2.1,([(r2.2.1,r2.2.2.1)]:List Aa))),(r2.1,(r2.2.1,(r2.2.2.1,(r2.2.2.2.1,(r2.2.2.2.2.1,(r2.2.2.2.2.2.1,r2.2.2.2.2.2.2.2.2.2.2)))))),r2.2.2.2.2.2.2.1))
 (K ((r2.2.2.2.2.2.2.2.1,(r2.2.2.2.2.2.2.2.2.1,r1.2.2)),(r2.1,(r2.2.1,(r2.2.2.1,(r2.2.2.2.1,(r2.2.2.2.2.1,(r2.2.2.2.2.2.1,r2.2.2.2.2.2.2.2.2.2.2)))))),r2.2.2.2.2.2.2.1))
def QB:=fun a=>CP a some
def jZ:Spec:=P9.sp QB
noncomputable def nah:Env:=eE [] (yb [(14,BH),(25,Tac)]) qN
theorem kZ:OK (5) 37 (P9.sp QB):=
 fO (d:=4) (env:=nah) (Da (cc CH (cc Uac cn))) (fn:=Tryz.f37) (mc:=@CP) (by intros;simp only[QB,CP,nn]) (Fa:=[6,7,12]) (sh:=(.Sc [(.agg [(.lit .bool),(.lit (.pair .bool .bool)),(.lit ya)]),(.agg [.any,.any,.any,.any,.any,(.lit (.int .i64)),(.lit (.slice (.int .i64))),(.lit (.slice (.int .i64)))]),.any])) (fz:=true)
def I9:FS (vb) (Unit)where
 sk:=⟨(.cons (.agg Kd) .nil),[],0⟩
 a:=fun u=>(q3 u.1.1)
 o:=fun Z a r K=>kv K (.fn 69 (.cons (.ptr 0 0) .nil)) [.Ya Kd] 0 ((),()) ((a.1,a.2.1,a.2.2,()),())
def aZ{X:Type}(a:vb)(K:Unit->Option X):Option X:=
 K ()
def ZY:=fun a=>aZ a some
def XY:Spec:=I9.sp ZY
noncomputable def gah:Env:=eE [] (yb []) qN
theorem YY:OK (1) 43 (I9.sp ZY):=
 fO (d:=0) (env:=gah) (Da cn) (fn:=Tryz.f43) (mc:=@aZ) (by intros;simp only[ZY,aZ,nn])
def UZ:FS (Y27) (Int)where
 sk:=⟨(cL [(.all 0),(.agg Gg)]),[.cells ya],0⟩
 a:=fun u=>((u.1.2.1.1,u.1.2.1.2.1),u.2.1)
 o:=fun Z a r K=>kv K .i [.cells ya] 0 r (a.2,())
def Ko:LD (Int×(Aa×(List Aa))) (Int) ((Int) ⊕ (Unit))where
 sk:=⟨[(0,.v (.all 0)),(3,.loc 0 0),(7,.i),(8,.i)],[Gg],[.cells ya],0,1⟩
 p:=fun u=>(u.1.2.1,(u.2.1.1.1,u.2.1.1.2.1),u.2.2.1)
 t:=fun u=>u.1.2.2.1
 n:=fun p t=>(((),p.1,t,()),((p.2.1.1,p.2.1.2,()),()),p.2.2,())
 st:=fun Y p t ki ke=>cond (decide (t<p.1))
  (ask (V.ja t (da p.2.2)) (cond ((decide (p.2.1.1=(gx p.2.2 (fa t) Fb).1))&&((decide (p.2.1.2=(gx p.2.2 (fa t) Fb).2))&&true))
  (ke (.inl (t)))
  (ki ((Ea (t+(1:Int)))))))
  (ke (.inr (())))
 o:=fun Z p e K=>Sum.elim (fun e=>so K (.ret) ⟨[(4,.i)],[],[.cells ya],0,1⟩ ((e,()),(),p.2.2,())) (fun e=>so K (.exit 0) ⟨[],[],[.cells ya],0,1⟩ ((),(),p.2.2,())) e
 Dd:=⟨[0,3,7,8],[],[],[]⟩
 pe:=[(.ret,⟨[4],[],[],[]⟩),(.exit 0,⟨[],[],[],[]⟩)]
def GH{X:Type}(a:Y27)(K:Int->Option X):Option X:=
 (Ma (Ko.m ((nt (da a.2)),a)) 0).bind fun e1=>
 Sum.elim (fun e2=>K e2)
 (fun e3=>K (-1)) e1
def qy:=fun a=>GH a some
def M6:Spec:=UZ.sp qy
noncomputable def VZ:Env:=eE [] (yb []) (qL 2 Ko.q qN)
theorem jN:LS C VZ true [3] 19 (.loop (pc [1,0,1,0,0] Tryz.f115)):=fun hc=>
 lO hc Ko (by intros;simp only[Ko,LD.m,nn])
theorem N6:OK (1) 115 (UZ.sp qy):=
 fO (d:=0) (env:=VZ) (Da cn) (fn:=Tryz.f115) (mc:=@GH) (by intros;simp only[qy,GH,nn]) (Fa:=[3]) (hl:=fun hc=>(nc (by kernel_rfl) (Ua (jN hc) Kb)))
def U8:FS (Y27) (Bool)where
 sk:=⟨(cL [(.all 0),(.agg Gg)]),[.cells ya],0⟩
 a:=fun u=>((u.1.2.1.1,u.1.2.1.2.1),u.2.1)
 o:=fun Z a r K=>kv K (.bool) [.cells ya] 0 r (a.2,())
def YO{X:Type}(a:Y27)(K:Bool->Option X):Option X:=
 (qy (a.1,a.2)).bind fun r1=>
 K (decide ((0:Int)<=r1))
def OB:=fun a=>YO a some
def Dab:Spec:=U8.sp OB
noncomputable def Vag:Env:=eE [] (yb [(115,M6)]) qN
theorem Eab:OK (2) 72 (U8.sp OB):=
 fO (d:=1) (env:=Vag) (Da (cc N6 cn)) (fn:=Tryz.f72) (mc:=@YO) (by intros;simp only[OB,YO,nn]) (Fa:=[3])
def B9:FS (Y28) (Bool)where
 sk:=⟨(cL [(.agg (cL [(.all 0),(.all 1),(.all 2)])),(.agg uB)]),[.cells .bool,.cells (.pair .bool .bool),.cells ya],0⟩
 a:=fun u=>((q4 u.1.2.1),u.2.1,u.2.2.1,u.t3.1)
 o:=fun Z a r K=>kv K (.bool) [.cells .bool,.cells (.pair .bool .bool),.cells ya] 0 r (a.2.1,a.2.2.1,a.t3,())
def NY{X:Type}(a:Y28)(K:Bool->Option X):Option X:=
 cond (decide (a.1.1=(0:Int)))
 (cond (decide (a.1.2.1<(nt (da a.2.1))))
 (ask (V.ja a.1.2.1 (da a.2.1)) (K (gx a.2.1 (fa a.1.2.1) false)))
 (K false))
 (cond (decide (a.1.1=(3:Int)))
 ((OB (a.1.2.2,a.2.2.2)).bind fun r1=>
 K r1)
 (cond (decide (a.1.2.1<(nt (da a.2.2.1))))
 (ask (V.ja a.1.2.1 (da a.2.2.1)) (cond (decide ((Ea (a.1.1-(1:Int)))=(0:Int)))
 (K (gx a.2.2.1 (fa a.1.2.1) (false,false)).1)
 (cond (decide ((Ea (a.1.1-(1:Int)))=(1:Int)))
 (K (gx a.2.2.1 (fa a.1.2.1) (false,false)).2)
 (none))))
 (K false)))
def jw:=fun a=>NY a some
def xM:Spec:=B9.sp jw
noncomputable def fah:Env:=eE [] (yb [(72,Dab)]) qN
theorem yM:OK (3) 50 (B9.sp jw):=
 fO (d:=2) (env:=fah) (Da (cc Eab cn)) (fn:=Tryz.f50) (mc:=@NY) (by intros;simp only[jw,NY,nn]) (Fa:=[2,3])
def HQ:FS (Int×Int×Int×Int×(List Bool)×(List (Bool×Bool))×(List Aa)) (((List Bool)×(List (Bool×Bool))) ⊕ ((List Aa)))where
 sk:=⟨(cL [(.yl 0),(.agg uB)]),[.loop 230003 [(5,(.ptr 1 0))] .ready .normal,.Ya JL,.cells .bool,.cells (.pair .bool .bool),.cells ya],0⟩
 a:=fun u=>(r4 u.1.2.1 (u.t3.1,u.t4.1,u.t5.1))
 o:=fun Z a r K=>Sum.elim (fun e=>kv K (.bool) [.loop 230003 [(5,(.ptr 1 0))] .ready .normal,.Ya JL,.cells .bool,.cells (.pair .bool .bool),.cells ya] 0 true (((),()),((),(),(),()),e.1,e.2,a.t6,())) (fun e=>kv K (.bool) [.loop 230003 [(5,(.ptr 1 0))] .ready .normal,.Ya (cL [(.all 2),(.all 3),(.all 5)]),.cells .bool,.cells (.pair .bool .bool),.dead,.cells ya] 0 true (((),()),((),(),(),()),a.t4.1,a.t5.1,(),e,())) r
def Vi{X:Type}(a:Int×Int×Int×Int×(List Bool)×(List (Bool×Bool))×(List Aa))(K:((List Bool)×(List (Bool×Bool))) ⊕ ((List Aa))->Option X):Option X:=
 cond (decide (a.1=(0:Int)))
 (ask (V.ja a.2.1 (da a.2.2.2.2.1)) (K (.inl ((Qa a.2.2.2.2.1 (fa a.2.1) true),a.2.2.2.2.2.1))))
 (cond (decide (a.1=(3:Int)))
 ((jw ((a.1,(a.2.1,(a.2.2.1,a.2.2.2.1))),a.2.2.2.2.1,a.2.2.2.2.2.1,a.2.2.2.2.2.2)).bind fun r1=>
 cond (!r1)
 (ask (decide (((da a.2.2.2.2.2.2)+(da ([(a.2.2.1,a.2.2.2.1)]:List Aa))) * 16<=70368744177664)&&decide (((da a.2.2.2.2.2.2)+(da ([(a.2.2.1,a.2.2.2.1)]:List Aa)))<9223372036854775808)) (K (.inr ((a.2.2.2.2.2.2++([(a.2.2.1,a.2.2.2.1)]:List Aa))))))
 (cond (decide (a.1<(3:Int)))
 (ask (V.ja a.2.1 (da a.2.2.2.2.2.1)) (cond (decide ((Ea (a.1-(1:Int)))=(0:Int)))
 (K (.inl (a.2.2.2.2.1,(Qa a.2.2.2.2.2.1 (fa a.2.1) (true,(gx a.2.2.2.2.2.1 (fa a.2.1) (false,false)).2)))))
 (cond (decide ((Ea (a.1-(1:Int)))=(1:Int)))
 (K (.inl (a.2.2.2.2.1,(Qa a.2.2.2.2.2.1 (fa a.2.1) ((gx a.2.2.2.2.2.1 (fa a.2.1) (false,false)).1,true)))))
 (none))))
 (K (.inl (a.2.2.2.2.1,a.2.2.2.2.2.1)))))
 (cond (decide (a.1<(3:Int)))
 (ask (V.ja a.2.1 (da a.2.2.2.2.2.1)) (cond (decide ((Ea (a.1-(1:Int)))=(0:Int)))
 (K (.inl (a.2.2.2.2.1,(Qa a.2.2.2.2.2.1 (fa a.2.1) (true,(gx a.2.2.2.2.2.1 (fa a.2.1) (false,false)).2)))))
 (cond (decide ((Ea (a.1-(1:Int)))=(1:Int)))
 (K (.inl (a.2.2.2.2.1,(Qa a.2.2.2.2.2.1 (fa a.2.1) ((gx a.2.2.2.2.2.1 (fa a.2.1) (false,false)).1,true)))))
 (none))))
 (K (.inl (a.2.2.2.2.1,a.2.2.2.2.2.1)))))
def Vd:=fun a=>Vi a some
def Ut:Spec:=HQ.sp Vd
noncomputable def IQ:Env:=eE [] (yb [(50,xM)]) qN
theorem KA:OKY (4) Ut:=
 G3 (d:=3) (env:=IQ) (Da (cc yM cn)) (id:=230003) (r:=rfT 230003) rfl (fun hc=>(nc (by kernel_rfl) Kb)) (fun hc=>(nc (by kernel_rfl) Kb)) (mc:=fun X a K=>Vi a K) (fun _ _ _=>by kernel_rfl) (by intros;simp only[Vd,Vi,nn])
def V8:FS (p7) (Y3)where
 sk:=⟨(cL [(.yl 1),(.ptr 0 0)]),[.Ya Kd,.loop 230003 [(5,(.ptr 2 0))] .ready .normal,.Ya uR,.cells .bool,.cells (.pair .bool .bool),.cells ya],0⟩
 a:=fun u=>((q3 u.2.1),u.t4.1,u.t5.1,u.t6.1)
 o:=fun Z a r K=>kv K (.Sc .nil) [.Ya Kd,.loop 230003 [(5,(.ptr 2 0))] .ready .normal,.Ya iI,.cells .bool,.cells (.pair .bool .bool),.dead,.cells ya] 0 () ((a.1.1,a.1.2.1,a.1.2.2,()),((),()),((),(),(),()),r.1,r.2.1,(),r.2.2,())
def yq:LD ((List Bool)×Int×vb) (vQ) (Y3)where
 sk:=⟨[(0,.v (.yl 1)),(1,.p 0 0),(12,.v (.lit .bool)),(13,.i),(14,.i)],[],[.Ya Kd,.loop 230003 [(5,(.ptr 2 0))] .ready .normal,.Ya iI,.cells .bool,.cells (.pair .bool .bool),.dead,.cells ya],0,6⟩
 p:=fun u=>(u.1.2.2.1,u.1.t3.1,u.2.2.1.1,(u.2.2.1.2.1,u.2.2.1.2.2.1))
 t:=fun u=>(u.1.t4.1,u.t5.1,u.t6.1,u.t8.1)
 n:=fun p t=>(((),(),p.1,p.2.1,t.1,()),(),(p.2.2.1,p.t3.1,p.t4,()),((),()),((),(),(),()),t.2.1,t.2.2.1,(),t.t3,())
 st:=fun Y p t ki ke=>cond (decide (t.1<p.2.1))
  (ask (V.ja t.1 (da p.1)) (cond (gx p.1 (fa t.1) false)
  ((Vd (0,t.1,0,0,t.2.1,t.2.2.1,t.2.2.2)).bind fun r1=>
  Sum.elim (fun r2=>ki ((Ea (t.1+(1:Int))),r2.1,r2.2,t.2.2.2))
  (fun r3=>ki ((Ea (t.1+(1:Int))),t.2.1,t.2.2.1,r3)) r1)
  (ki ((Ea (t.1+(1:Int))),t.2.1,t.2.2.1,t.2.2.2))))
  (ke ((t.2.1,t.2.2.1,t.2.2.2)))
 o:=fun Z p e K=>so K (.exit 0) ⟨[(0,.v (.yl 1)),(1,.p 0 0)],[],[.Ya Kd,.loop 230003 [(5,(.ptr 2 0))] .ready .normal,.Ya iI,.cells .bool,.cells (.pair .bool .bool),.dead,.cells ya],0,6⟩ (((),(),()),(),(p.2.2.1,p.t3.1,p.t4,()),((),()),((),(),(),()),e.1,e.2.1,(),e.2.2,())
 Dd:=⟨[0,1,12,13,14],[],[],[(2,[.any,.any,(.mv ya)])]⟩
 pe:=[(.exit 0,⟨[0,1],[],[],[]⟩)]
def Mj:LD (Int×(List (Bool×Bool))×Int×Int×(Bool×Bool)×vb) (vQ) (Y3)where
 sk:=⟨[(0,.v (.yl 1)),(1,.p 0 0),(5,.i),(29,.v (.lit (.pair .bool .bool))),(30,.i),(31,.i),(36,.v (.agg (cL [.bool,.bool]))),(37,.i)],[],[.Ya Kd,.loop 230003 [(5,(.ptr 2 0))] .ready .normal,.Ya iI,.cells .bool,.cells (.pair .bool .bool),.dead,.cells ya],0,6⟩
 p:=fun u=>(r4 u.1.2.2 ((u.1.t6.1.1,u.1.t6.1.2.1),u.2.2.1.1,(u.2.2.1.2.1,u.2.2.1.2.2.1)))
 t:=fun u=>(u.1.t7.1,u.t5.1,u.t6.1,u.t8.1)
 n:=fun p t=>(((),(),(r4 p ((p.t4.1.1,p.t4.1.2,()),t.1,()))),(),(p.t5.1,p.t6.1,p.t7,()),((),()),((),(),(),()),t.2.1,t.2.2.1,(),t.t3,())
 st:=fun Y p t ki ke=>cond (decide (t.1<(2:Int)))
  (cond (decide (t.1=(0:Int)))
  (cond p.2.2.2.2.1.1
  ((Vd ((Ea ((1:Int)+t.1)),p.1,0,0,t.2.1,t.2.2.1,t.2.2.2)).bind fun r1=>
  Sum.elim (fun r2=>ki ((Ea (t.1+(1:Int))),r2.1,r2.2,t.2.2.2))
  (fun r3=>ki ((Ea (t.1+(1:Int))),t.2.1,t.2.2.1,r3)) r1)
  (ki ((Ea (t.1+(1:Int))),t.2.1,t.2.2.1,t.2.2.2)))
  (cond (decide (t.1=(1:Int)))
  (cond p.2.2.2.2.1.2
  ((Vd ((Ea ((1:Int)+t.1)),p.1,0,0,t.2.1,t.2.2.1,t.2.2.2)).bind fun r4=>
  Sum.elim (fun r5=>ki ((Ea (t.1+(1:Int))),r5.1,r5.2,t.2.2.2))
  (fun r6=>ki ((Ea (t.1+(1:Int))),t.2.1,t.2.2.1,r6)) r4)
  (ki ((Ea (t.1+(1:Int))),t.2.1,t.2.2.1,t.2.2.2)))
  (none)))
  (ke ((t.2.1,t.2.2.1,t.2.2.2)))
 o:=fun Z p e K=>so K (.exit 4) ⟨[(0,.v (.yl 1)),(1,.p 0 0),(29,.v (.lit (.pair .bool .bool))),(30,.i),(31,.i)],[],[.Ya Kd,.loop 230003 [(5,(.ptr 2 0))] .ready .normal,.Ya iI,.cells .bool,.cells (.pair .bool .bool),.dead,.cells ya],0,6⟩ (((),(),(r3 p.2 ())),(),(p.t5.1,p.t6.1,p.t7,()),((),()),((),(),(),()),e.1,e.2.1,(),e.2.2,())
 Dd:=⟨[0,1,5,29,30,31,36,37],[],[],[]⟩
 pe:=[(.exit 4,⟨[0,1,29,30,31],[],[],[]⟩)]
def xq:LD ((List (Bool×Bool))×Int×vb) (vQ) (Y3)where
 sk:=⟨[(0,.v (.yl 1)),(1,.p 0 0),(29,.v (.lit (.pair .bool .bool))),(30,.i),(31,.i)],[],[.Ya Kd,.loop 230003 [(5,(.ptr 2 0))] .ready .normal,.Ya iI,.cells .bool,.cells (.pair .bool .bool),.dead,.cells ya],0,6⟩
 p:=fun u=>(u.1.2.2.1,u.1.t3.1,u.2.2.1.1,(u.2.2.1.2.1,u.2.2.1.2.2.1))
 t:=fun u=>(u.1.t4.1,u.t5.1,u.t6.1,u.t8.1)
 n:=fun p t=>(((),(),p.1,p.2.1,t.1,()),(),(p.2.2.1,p.t3.1,p.t4,()),((),()),((),(),(),()),t.2.1,t.2.2.1,(),t.t3,())
 st:=fun Y p t ki ke=>cond (decide (t.1<p.2.1))
  (ask (V.ja t.1 (da p.1)) ((Ma (Mj.m (t.1,p.1,p.2.1,t.1,(gx p.1 (fa t.1) (false,false)),p.2.2)) (0,t.2.1,t.2.2.1,t.2.2.2)).bind fun e1=>
  ki ((Ea (t.1+(1:Int))),e1.1,e1.2.1,e1.2.2)))
  (ke ((t.2.1,t.2.2.1,t.2.2.2)))
 o:=fun Z p e K=>so K (.exit 2) ⟨[(0,.v (.yl 1)),(1,.p 0 0)],[],[.Ya Kd,.loop 230003 [(5,(.ptr 2 0))] .ready .normal,.Ya iI,.cells .bool,.cells (.pair .bool .bool),.dead,.cells ya],0,6⟩ (((),(),()),(),(p.2.2.1,p.t3.1,p.t4,()),((),()),((),(),(),()),e.1,e.2.1,(),e.2.2,())
 Dd:=⟨[0,1,29,30,31],[],[],[]⟩
 pe:=[(.exit 2,⟨[0,1],[],[],[]⟩)]
def Wl:LD ((List Aa)×Int×vb) (vQ) (Y3)where
 sk:=⟨[(0,.v (.yl 1)),(54,.v (.lit ya)),(55,.i),(56,.i)],[],[.Ya Kd,.loop 230003 [(5,(.ptr 2 0))] .ready .normal,.Ya iI,.cells .bool,.cells (.pair .bool .bool),.dead,.cells ya],0,6⟩
 p:=fun u=>(u.1.2.1,u.1.2.2.1,u.2.2.1.1,(u.2.2.1.2.1,u.2.2.1.2.2.1))
 t:=fun u=>(u.1.t3.1,u.t5.1,u.t6.1,u.t8.1)
 n:=fun p t=>(((),p.1,p.2.1,t.1,()),(),(p.2.2.1,p.t3.1,p.t4,()),((),()),((),(),(),()),t.2.1,t.2.2.1,(),t.t3,())
 st:=fun Y p t ki ke=>cond (decide (t.1<p.2.1))
  (ask (V.ja t.1 (da p.1)) ((Vd (3,0,(gx p.1 (fa t.1) Fb).1,(gx p.1 (fa t.1) Fb).2,t.2.1,t.2.2.1,t.2.2.2)).bind fun r1=>
  Sum.elim (fun r2=>ki ((Ea (t.1+(1:Int))),r2.1,r2.2,t.2.2.2))
  (fun r3=>ki ((Ea (t.1+(1:Int))),t.2.1,t.2.2.1,r3)) r1))
  (ke ((t.2.1,t.2.2.1,t.2.2.2)))
 o:=fun Z p e K=>so K (.exit 6) ⟨[],[],[.Ya Kd,.loop 230003 [(5,(.ptr 2 0))] .ready .normal,.Ya iI,.cells .bool,.cells (.pair .bool .bool),.dead,.cells ya],0,6⟩ ((),(),(p.2.2.1,p.t3.1,p.t4,()),((),()),((),(),(),()),e.1,e.2.1,(),e.2.2,())
 Dd:=⟨[0,54,55,56],[],[],[]⟩
 pe:=[(.exit 6,⟨[],[],[],[]⟩)]
def eP{X:Type}(a:p7)(K:Y3->Option X):Option X:=
 (Ma (yq.m (a.1.1,(nt (da a.1.1)),a.1)) (0,a.2.1,a.2.2.1,a.2.2.2)).bind fun e1=>
 (Ma (xq.m (a.1.2.1,(nt (da a.1.2.1)),a.1)) (0,e1.1,e1.2.1,e1.2.2)).bind fun e2=>
 (Ma (Wl.m (a.1.2.2,(nt (da a.1.2.2)),a.1)) (0,e2.1,e2.2.1,e2.2.2)).bind fun e3=>
 K (e3.1,e3.2.1,e3.2.2)
def eF:=fun a=>eP a some
def Gab:Spec:=V8.sp eF
noncomputable def WJ:Env:=eE [] (Rs [] [(230003,Ut)]) (qL 1 yq.q (qL 9 Mj.q (qL 6 xq.q (qL 15 Wl.q qN))))
theorem yS:LS C WJ true [6,10] 66 (.loop (pc [0,1,0,0] Tryz.f69)):=fun hc=>
 lO hc yq (by intros;simp only[yq,LD.m,nn])
theorem wS:LS C WJ true [6,10] 66 (.loop (pc [1,0,1,0,0,1,1,0,0,1,1,0,0] Tryz.f69)):=fun hc=>
 lO hc Mj (by intros;simp only[Mj,LD.m,nn])
theorem xS:LS C WJ true [6,10] 66 (.loop (pc [1,0,1,0,0] Tryz.f69)):=fun hc=>
 lO hc xq (by intros;simp only[xq,LD.m,nn]) (hl:=(nc (by kernel_rfl) (Ua (wS hc) Kb)))
theorem qM:LS C WJ true [6,10] 66 (.loop (pc [1,1,1,0,0] Tryz.f69)):=fun hc=>
 lO hc Wl (by intros;simp only[Wl,LD.m,nn])
theorem Hab:OK (5) 69 (V8.sp eF):=
 fO (d:=4) (env:=WJ) (Dj cn (ccy KA cyn)) (fn:=Tryz.f69) (mc:=@eP) (by intros;simp only[eF,eP,nn]) (Fa:=[6,10]) (hl:=fun hc=>(nc (by kernel_rfl) (Ua (yS hc) (Ua (xS hc) (Ua (qM hc) Kb)))))
def wZ:FS (p7) (Y3)where
 sk:=⟨(cL [(.agg (cL [(.all 0),(.all 1),(.all 2)])),(.agg Kd)]),[.cells .bool,.cells (.pair .bool .bool),.cells ya],0⟩
 a:=fun u=>((q3 u.1.2.1),u.2.1,u.2.2.1,u.t3.1)
 o:=fun Z a r K=>kv K (.agg (cL [(.all 3),(.all 4),(.all 5)])) [.cells .bool,.cells (.pair .bool .bool),.cells ya,.cells .bool,.cells (.pair .bool .bool),.cells ya] 0 ((),(),(),()) (a.2.1,a.2.2.1,a.t3,r.1,r.2.1,r.2.2,())
def XB:PD (vb×(List Bool)×(List (Bool×Bool))×(List Aa)×vb) (Y3)where
 sk:=⟨[(4,.p 3 0),(5,.p 4 0),(18,.v (.fn 69 (.cons (.ptr 8 0) .nil)))],[],[.cells .bool,.cells (.pair .bool .bool),.cells ya,.Ya (cL [.Xa,.Xa,.Xa]),.Ya kr9,.cells .bool,.cells (.pair .bool .bool),.cells ya,.Ya Kd],0,3⟩
 p:=fun u=>((q3 u.2.2),(r3 u.t7 (q3 u.t10.1)))
 st:=fun Y p ke=>(eF (p.2.2.2.2,p.2.1,p.2.2.1,p.2.2.2.1)).bind fun r1=>
  ke ((r1.1,r1.2.1,r1.2.2))
 o:=fun Z p e K=>so K (.normal) ⟨[(4,.p 3 0),(5,.p 4 0)],[],[.cells .bool,.cells (.pair .bool .bool),.cells ya,.Ya (cL [.Xa,.Xa,.Xa]),.Ya kr9,.cells .bool,.cells (.pair .bool .bool),.cells ya],0,3⟩ (((),(),()),(),p.1.1,p.1.2.1,p.1.2.2,((),(),(),()),((),(),(),()),e.1,e.2.1,e.2.2,())
 Dd:=⟨[4,5,18],[],[],[]⟩
 pe:=[(.normal,⟨[4,5],[],[],[]⟩)]
def UP{X:Type}(a:p7)(K:Y3->Option X):Option X:=
 (uP a.2.1).bind fun r1=>
 (tP a.2.2.1).bind fun r2=>
 (sP a.2.2.2).bind fun r3=>
 (XB.m (a.2,r1,r2,r3,a.1)).bind fun e4=>
 (kF e4.2.2).bind fun r5=>
 K (e4.1,e4.2.1,r5)
def qw:=fun a=>UP a some
def vZ:Spec:=wZ.sp qw
noncomputable def yZ:Env:=eE [] (yb [(47,BM),(48,AM),(49,zM),(43,XY),(69,Gab),(51,wM)]) (qL 3 XB.q qN)
theorem gT:LS C yZ true [] 63 (rfC (pc [1,1,0,1,0] Tryz.f23)):=fun hc=>
 rO (env:=yZ) hc (id:=230003) (ks:=[5]) XB (by intros;simp only[XB,PD.m,nn])
theorem xZ:OK (6) 23 (wZ.sp qw):=
 fO (d:=5) (env:=yZ) (Da (cc QY (cc PY (cc OY (cc YY (cc Hab (cc MY cn))))))) (fn:=Tryz.f23) (mc:=@UP) (by intros;simp only[qw,UP,nn]) (sh:=(.agg [(.own .bool),(.own (.pair .bool .bool)),(.own ya)])) (hl:=fun hc=>(nc (by kernel_rfl) (Ua (gT hc) Kb)))
def c_:FS (p_) (Y3)where
 sk:=⟨(cL [(.agg jb),(.lit (.slice .i)),.i]),[],0⟩
 a:=fun u=>((q8 u.1.1),u.1.2.1,u.1.2.2.1)
 o:=fun Z a r K=>kv K (.agg (cL [(.all 0),(.all 1),(.all 2)])) [.cells .bool,.cells (.pair .bool .bool),.cells ya] 0 ((),(),(),()) (r.1,r.2.1,r.2.2,())
def Mq:LD (Int×(List (List Int))×Int×Ga) (vQ) (Y3)where
 sk:=⟨[(2,.i),(3,.loc 0 0),(6,.loc 1 0),(7,.loc 2 0),(15,.v (.lit (.slice .i))),(16,.i),(17,.i)],[jb,(cL [.Xa,.Xa,.Xa]),(cL [(.all 0),(.all 1),(.all 2)])],[.cells .bool,.cells (.pair .bool .bool),.cells ya],0,0⟩
 p:=fun u=>(r3 u.1 (q8 u.2.1.1))
 t:=fun u=>(u.1.t3.1,u.2.2.1,u.t3.1,u.t4.1)
 n:=fun p t=>((r3 p (t.1,())),((r7 p.t3 (p.t10,())),((),(),(),()),((),(),(),()),()),t.2.1,t.2.2.1,t.t3,())
 st:=fun Y p t ki ke=>cond (decide (t.1<p.2.2.1))
  (ask (V.ja t.1 (da p.2.1)) ((QB (p.2.2.2,(gx p.2.1 (fa t.1) []),p.1)).bind fun r1=>
  (qw (r1.1,t.2.1,t.2.2.1,t.2.2.2)).bind fun r2=>
  ki ((Ea (t.1+(1:Int))),r2.1,r2.2.1,r2.2.2)))
  (ke ((t.2.1,t.2.2.1,t.2.2.2)))
 o:=fun Z p e K=>so K (.exit 0) ⟨[(6,.loc 0 0),(7,.loc 1 0)],[(cL [.Xa,.Xa,.Xa]),(cL [(.all 0),(.all 1),(.all 2)])],[.cells .bool,.cells (.pair .bool .bool),.cells ya],0,0⟩ ((),(((),(),(),()),((),(),(),()),()),e.1,e.2.1,e.2.2,())
 Dd:=⟨[2,3,6,7,15,16,17],[],[],[]⟩
 pe:=[(.exit 0,⟨[6,7],[],[],[]⟩)]
def gQ{X:Type}(a:p_)(K:Y3->Option X):Option X:=
 (Nt a.1).bind fun r1=>
 (Ma (Mq.m (a.2.2,a.2.1,(nt (da a.2.1)),a.1)) (0,r1.1,r1.2.1,r1.2.2)).bind fun e2=>
 K (e2.1,e2.2.1,e2.2.2)
def vp:=fun a=>gQ a some
def MZ:Spec:=c_.sp vp
noncomputable def d_:Env:=eE [] (yb [(14,BH),(37,jZ),(23,vZ)]) (qL 3 Mq.q qN)
theorem AT:LS C d_ true [3,6,7,10,11] 34 (.loop (pc [1,1,0,1,0,0] Tryz.f12)):=fun hc=>
 lO hc Mq (by intros;simp only[Mq,LD.m,nn])
theorem NZ:OK (7) 12 (c_.sp vp):=
 fO (d:=6) (env:=d_) (Da (cc CH (cc kZ (cc xZ cn)))) (fn:=Tryz.f12) (mc:=@gQ) (by intros;simp only[vp,gQ,nn]) (Fa:=[3,6,7,10,11]) (sh:=(.agg [(.own .bool),(.own (.pair .bool .bool)),(.own ya)])) (hl:=fun hc=>(nc (by kernel_rfl) (Ua (AT hc) Kb)))
def yP:FS (Y3) (Unit)where
 sk:=⟨(.cons (.agg (cL [(.all 0),(.all 1),(.all 2)])) .nil),[.cells .bool,.cells (.pair .bool .bool),.cells ya],0⟩
 a:=fun u=>(u.2.1,u.2.2.1,u.t3.1)
 o:=fun Z a r K=>kv K (.fn 69 (.cons (.ptr 3 0) .nil)) [.cells .bool,.cells (.pair .bool .bool),.cells ya,.Ya G4] 0 ((),()) (a.1,a.2.1,a.2.2,((),(),(),()),())
def uH{X:Type}(a:Y3)(K:Unit->Option X):Option X:=
 K ()
def tH:=fun a=>uH a some
def cK:Spec:=yP.sp tH
noncomputable def E6:Env:=eE [] (yb []) qN
theorem dK:OK (1) 43 (yP.sp tH):=
 fO (d:=0) (env:=E6) (Da cn) (fn:=Tryz.f43) (mc:=@uH) (by intros;simp only[tH,uH,nn])
def JQ:FS (Int×Int×Int×Int×Int) (Int)where
 sk:=⟨(cL [(.yl 0),(.agg uB)]),[.loop 180000 [(3,(.ptr 1 0))] .ready .normal,.Ya (.cons .i .nil)],0⟩
 a:=fun u=>(r4 u.1.2.1 u.2.2.1.1)
 o:=fun Z a r K=>kv K (.bool) [.loop 180000 [(3,(.ptr 1 0))] .ready .normal,.Ya (.cons .i .nil)] 0 true (((),()),(r,()),())
def Wi{X:Type}(a:Int×Int×Int×Int×Int)(K:Int->Option X):Option X:=
 K (Ea (a.2.2.2.2+(1:Int)))
def Dg:=fun a=>Wi a some
def LA:Spec:=JQ.sp Dg
noncomputable def KQ:Env:=eE [] (yb []) qN
theorem ZK:OKY (1) LA:=
 G3 (d:=0) (env:=KQ) (Da cn) (id:=180000) (r:=rfT 180000) rfl (fun hc=>(nc (by kernel_rfl) Kb)) (fun hc=>(nc (by kernel_rfl) Kb)) (mc:=fun X a K=>Wi a K) (fun _ _ _=>by kernel_rfl) (by intros;simp only[Dg,Wi,nn])
def dP:FS (Y32) (Int)where
 sk:=⟨(cL [(.yl 4),(.ptr 0 0)]),[.Ya Kj,.cells .bool,.cells (.pair .bool .bool),.cells ya,.loop 180000 [(3,(.ptr 5 0))] .ready .normal,.Ya (.cons .i .nil)],0⟩
 a:=fun u=>(r3 u.2.2 u.t6.1.1)
 o:=fun Z a r K=>kv K (.Sc .nil) [.Ya Kj,.cells .bool,.cells (.pair .bool .bool),.cells ya,.loop 180000 [(3,(.ptr 5 0))] .ready .normal,.Ya (.cons .i .nil)] 0 () (((),(),(),()),(r3 a (((),()),(r,()),())))
def Hi:LD (vQ) (Int×Int) (Int)where
 sk:=⟨[(0,.v (.yl 4)),(1,.p 0 0),(12,.v (.all 1)),(13,.i),(14,.i)],[],[.Ya Kj,.cells .bool,.cells (.pair .bool .bool),.cells ya,.loop 180000 [(3,(.ptr 5 0))] .ready .normal,.Ya (.cons .i .nil)],0,6⟩
 p:=fun u=>(u.1.t3.1,u.t3.1,u.t4.1,u.t5.1)
 t:=fun u=>(u.1.t4.1,u.t7.1.1)
 n:=fun p t=>(((),(),(),p.1,t.1,()),(),((),(),(),()),p.2.1,p.2.2.1,p.t3,((),()),(t.2,()),())
 st:=fun Y p t ki ke=>cond (decide (t.1<p.1))
  (ask (V.ja t.1 (da p.2.1)) (cond (gx p.2.1 (fa t.1) false)
  ((Dg (0,t.1,0,0,t.2)).bind fun r1=>
  ki ((Ea (t.1+(1:Int))),r1))
  (ki ((Ea (t.1+(1:Int))),t.2))))
  (ke (t.2))
 o:=fun Z p e K=>so K (.exit 0) ⟨[(0,.v (.yl 4)),(1,.p 0 0)],[],[.Ya Kj,.cells .bool,.cells (.pair .bool .bool),.cells ya,.loop 180000 [(3,(.ptr 5 0))] .ready .normal,.Ya (.cons .i .nil)],0,6⟩ (((),(),()),(),((),(),(),()),p.2.1,p.2.2.1,p.t3,((),()),(e,()),())
 Dd:=⟨[0,1,12,13,14],[],[],[]⟩
 pe:=[(.exit 0,⟨[0,1],[],[],[]⟩)]
def Xf:LD (Y33) (Int×Int) (Int)where
 sk:=⟨[(0,.v (.yl 4)),(1,.p 0 0),(5,.i),(29,.v (.all 2)),(30,.i),(31,.i),(36,.v (.agg (cL [.bool,.bool]))),(37,.i)],[],[.Ya Kj,.cells .bool,.cells (.pair .bool .bool),.cells ya,.loop 180000 [(3,(.ptr 5 0))] .ready .normal,.Ya (.cons .i .nil)],0,6⟩
 p:=fun u=>(u.1.2.2.1,u.1.t4.1,u.1.t5.1,(u.1.t6.1.1,u.1.t6.1.2.1),u.t3.1,(u.t4.1,u.t5.1))
 t:=fun u=>(u.1.t7.1,u.t7.1.1)
 n:=fun p t=>(((),(),p.1,(),p.2.1,p.2.2.1,(p.t3.1.1,p.t3.1.2,()),t.1,()),(),((),(),(),()),p.t4.1,p.t5.1,p.t6,((),()),(t.2,()),())
 st:=fun Y p t ki ke=>cond (decide (t.1<(2:Int)))
  (cond (decide (t.1=(0:Int)))
  (cond p.2.2.2.1.1
  ((Dg ((Ea ((1:Int)+t.1)),p.1,0,0,t.2)).bind fun r1=>
  ki ((Ea (t.1+(1:Int))),r1))
  (ki ((Ea (t.1+(1:Int))),t.2)))
  (cond (decide (t.1=(1:Int)))
  (cond p.2.2.2.1.2
  ((Dg ((Ea ((1:Int)+t.1)),p.1,0,0,t.2)).bind fun r2=>
  ki ((Ea (t.1+(1:Int))),r2))
  (ki ((Ea (t.1+(1:Int))),t.2)))
  (none)))
  (ke (t.2))
 o:=fun Z p e K=>so K (.exit 4) ⟨[(0,.v (.yl 4)),(1,.p 0 0),(29,.v (.all 2)),(30,.i),(31,.i)],[],[.Ya Kj,.cells .bool,.cells (.pair .bool .bool),.cells ya,.loop 180000 [(3,(.ptr 5 0))] .ready .normal,.Ya (.cons .i .nil)],0,6⟩ (((),(),(),p.2.1,p.2.2.1,()),(),((),(),(),()),p.t4.1,p.t5.1,p.t6,((),()),(e,()),())
 Dd:=⟨[0,1,5,29,30,31,36,37],[],[],[]⟩
 pe:=[(.exit 4,⟨[0,1,29,30,31],[],[],[]⟩)]
def Cj:LD (vQ) (Int×Int) (Int)where
 sk:=⟨[(0,.v (.yl 4)),(1,.p 0 0),(29,.v (.all 2)),(30,.i),(31,.i)],[],[.Ya Kj,.cells .bool,.cells (.pair .bool .bool),.cells ya,.loop 180000 [(3,(.ptr 5 0))] .ready .normal,.Ya (.cons .i .nil)],0,6⟩
 p:=fun u=>(u.1.t3.1,u.t3.1,u.t4.1,u.t5.1)
 t:=fun u=>(u.1.t4.1,u.t7.1.1)
 n:=fun p t=>(((),(),(),p.1,t.1,()),(),((),(),(),()),p.2.1,p.2.2.1,p.t3,((),()),(t.2,()),())
 st:=fun Y p t ki ke=>cond (decide (t.1<p.1))
  (ask (V.ja t.1 (da p.2.2.1)) ((Ma (Xf.m (t.1,p.1,t.1,(gx p.2.2.1 (fa t.1) (false,false)),p.2)) (0,t.2)).bind fun e1=>
  ki ((Ea (t.1+(1:Int))),e1)))
  (ke (t.2))
 o:=fun Z p e K=>so K (.exit 2) ⟨[(0,.v (.yl 4)),(1,.p 0 0)],[],[.Ya Kj,.cells .bool,.cells (.pair .bool .bool),.cells ya,.loop 180000 [(3,(.ptr 5 0))] .ready .normal,.Ya (.cons .i .nil)],0,6⟩ (((),(),()),(),((),(),(),()),p.2.1,p.2.2.1,p.t3,((),()),(e,()),())
 Dd:=⟨[0,1,29,30,31],[],[],[]⟩
 pe:=[(.exit 2,⟨[0,1],[],[],[]⟩)]
def Th:LD (vQ) (Int×Int) (Int)where
 sk:=⟨[(0,.v (.yl 4)),(54,.v (.all 3)),(55,.i),(56,.i)],[],[.Ya Kj,.cells .bool,.cells (.pair .bool .bool),.cells ya,.loop 180000 [(3,(.ptr 5 0))] .ready .normal,.Ya (.cons .i .nil)],0,6⟩
 p:=fun u=>(u.1.2.2.1,u.t3.1,u.t4.1,u.t5.1)
 t:=fun u=>(u.1.t3.1,u.t7.1.1)
 n:=fun p t=>(((),(),p.1,t.1,()),(),((),(),(),()),p.2.1,p.2.2.1,p.t3,((),()),(t.2,()),())
 st:=fun Y p t ki ke=>cond (decide (t.1<p.1))
  (ask (V.ja t.1 (da p.2.2.2)) ((Dg (3,0,(gx p.2.2.2 (fa t.1) Fb).1,(gx p.2.2.2 (fa t.1) Fb).2,t.2)).bind fun r1=>
  ki ((Ea (t.1+(1:Int))),r1)))
  (ke (t.2))
 o:=fun Z p e K=>so K (.exit 6) ⟨[],[],[.Ya Kj,.cells .bool,.cells (.pair .bool .bool),.cells ya,.loop 180000 [(3,(.ptr 5 0))] .ready .normal,.Ya (.cons .i .nil)],0,6⟩ ((),(),((),(),(),()),p.2.1,p.2.2.1,p.t3,((),()),(e,()),())
 Dd:=⟨[0,54,55,56],[],[],[]⟩
 pe:=[(.exit 6,⟨[],[],[],[]⟩)]
def sA{X:Type}(a:Y32)(K:Int->Option X):Option X:=
 (Ma (Hi.m ((nt (da a.1)),a.1,a.2.1,a.2.2.1)) (0,a.2.2.2)).bind fun e1=>
 (Ma (Cj.m ((nt (da a.2.1)),a.1,a.2.1,a.2.2.1)) (0,e1)).bind fun e2=>
 (Ma (Th.m ((nt (da a.2.2.1)),a.1,a.2.1,a.2.2.1)) (0,e2)).bind fun e3=>
 K e3
def Es:=fun a=>sA a some
def rY:Spec:=dP.sp Es
noncomputable def gw:Env:=eE [] (Rs [] [(180000,LA)]) (qL 1 Hi.q (qL 9 Xf.q (qL 6 Cj.q (qL 15 Th.q qN))))
theorem VJ:LS C gw true [6,10] 66 (.loop (pc [0,1,0,0] Tryz.f69)):=fun hc=>
 lO hc Hi (by intros;simp only[Hi,LD.m,nn])
theorem TJ:LS C gw true [6,10] 66 (.loop (pc [1,0,1,0,0,1,1,0,0,1,1,0,0] Tryz.f69)):=fun hc=>
 lO hc Xf (by intros;simp only[Xf,LD.m,nn])
theorem UJ:LS C gw true [6,10] 66 (.loop (pc [1,0,1,0,0] Tryz.f69)):=fun hc=>
 lO hc Cj (by intros;simp only[Cj,LD.m,nn]) (hl:=(nc (by kernel_rfl) (Ua (TJ hc) Kb)))
theorem nH:LS C gw true [6,10] 66 (.loop (pc [1,1,1,0,0] Tryz.f69)):=fun hc=>
 lO hc Th (by intros;simp only[Th,LD.m,nn])
theorem sY:OK (2) 69 (dP.sp Es):=
 fO (d:=1) (env:=gw) (Dj cn (ccy ZK cyn)) (fn:=Tryz.f69) (mc:=@sA) (by intros;simp only[Es,sA,nn]) (Fa:=[6,10]) (hl:=fun hc=>(nc (by kernel_rfl) (Ua (VJ hc) (Ua (UJ hc) (Ua (nH hc) Kb)))))
def V':FS (Y3) (Int)where
 sk:=⟨(.cons (.agg (cL [(.all 0),(.all 1),(.all 2)])) .nil),[.cells .bool,.cells (.pair .bool .bool),.cells ya],0⟩
 a:=fun u=>(u.2.1,u.2.2.1,u.t3.1)
 o:=fun Z a r K=>kv K .i [.cells .bool,.cells (.pair .bool .bool),.cells ya] 0 r (a.1,a.2.1,a.2.2,())
def ZB:PD (vb×Int) (Int)where
 sk:=⟨[(3,.p 3 0),(5,.v (.fn 69 (.cons (.ptr 4 0) .nil)))],[],[.cells .bool,.cells (.pair .bool .bool),.cells ya,.Ya (.cons .i .nil),.Ya G4],0,3⟩
 p:=fun u=>((q3 u.2.2),u.t5.1.1)
 st:=fun Y p ke=>(Es (p.1.1,p.1.2.1,p.1.2.2,p.2)).bind fun r1=>
  ke (r1)
 o:=fun Z p e K=>so K (.normal) ⟨[(3,.p 3 0)],[],[.cells .bool,.cells (.pair .bool .bool),.cells ya,.Ya (.cons .i .nil)],0,3⟩ (((),()),(),p.1.1,p.1.2.1,p.1.2.2,(e,()),())
 Dd:=⟨[3,5],[],[],[]⟩
 pe:=[(.normal,⟨[3],[],[],[]⟩)]
def ZP{X:Type}(a:Y3)(K:Int->Option X):Option X:=
 (ZB.m (a,0)).bind fun e1=>
 K e1
def Mt:=fun a=>ZP a some
def BZ:Spec:=V'.sp Mt
noncomputable def DZ:Env:=eE [] (yb [(43,cK),(69,rY)]) (qL 0 ZB.q qN)
theorem lT:LS C DZ true [] 10 (rfC (pc [1,1,0,1,0] Tryz.f18)):=fun hc=>
 rO (env:=DZ) hc (id:=180000) (ks:=[3]) ZB (by intros;simp only[ZB,PD.m,nn])
theorem CZ:OK (3) 18 (V'.sp Mt):=
 fO (d:=2) (env:=DZ) (Da (cc dK (cc sY cn))) (fn:=Tryz.f18) (mc:=@ZP) (by intros;simp only[Mt,ZP,nn]) (hl:=fun hc=>(nc (by kernel_rfl) (Ua (lT hc) Kb)))
def CQ:FS (Int×Int×Int×Int×(List Bool)×(List (Bool×Bool))×(List Aa)×Int) (Int)where
 sk:=⟨(cL [(.yl 0),(.agg uB)]),[.loop 440003 [(3,(.ptr 1 0)),(5,(.ptr 5 0))] .ready .normal,.Ya JL,.cells .bool,.cells (.pair .bool .bool),.cells ya,.Ya (.cons .i .nil)],0⟩
 a:=fun u=>(r4 u.1.2.1 (r3 u.t3 u.t6.1.1))
 o:=fun Z a r K=>kv K (.bool) [.loop 440003 [(3,(.ptr 1 0)),(5,(.ptr 5 0))] .ready .normal,.Ya JL,.cells .bool,.cells (.pair .bool .bool),.cells ya,.Ya (.cons .i .nil)] 0 true (((),(),()),((),(),(),()),(r3 a.t4 ((r,()),())))
def Vw{X:Type}(a:Int×Int×Int×Int×(List Bool)×(List (Bool×Bool))×(List Aa)×Int)(K:Int->Option X):Option X:=
 (jw ((a.1,(a.2.1,(a.2.2.1,a.2.2.2.1))),a.2.2.2.2.1,a.2.2.2.2.2.1,a.2.2.2.2.2.2.1)).bind fun r1=>
 cond (!r1)
 (K (Ea (a.2.2.2.2.2.2.2+(1:Int))))
 (K a.2.2.2.2.2.2.2)
def xk:=fun a=>Vw a some
def IA:Spec:=CQ.sp xk
noncomputable def DQ:Env:=eE [] (yb [(50,xM)]) qN
theorem XK:OKY (4) IA:=
 G3 (d:=3) (env:=DQ) (Da (cc yM cn)) (id:=440003) (r:=rfT 440003) rfl (fun hc=>(nc (by kernel_rfl) Kb)) (fun hc=>(nc (by kernel_rfl) Kb)) (mc:=fun X a K=>Vw a K) (fun _ _ _=>by kernel_rfl) (by intros;simp only[xk,Vw,nn])
def bP:FS (Y34) (Int)where
 sk:=⟨(cL [(.yl 1),(.ptr 0 0)]),[.Ya Kd,.loop 440003 [(3,(.ptr 2 0)),(5,(.ptr 6 0))] .ready .normal,.Ya uR,.cells .bool,.cells (.pair .bool .bool),.cells ya,.Ya (.cons .i .nil)],0⟩
 a:=fun u=>((q3 u.2.1),(r3 u.t4 u.t7.1.1))
 o:=fun Z a r K=>kv K (.Sc .nil) [.Ya Kd,.loop 440003 [(3,(.ptr 2 0)),(5,(.ptr 6 0))] .ready .normal,.Ya uR,.cells .bool,.cells (.pair .bool .bool),.cells ya,.Ya (.cons .i .nil)] 0 () ((a.1.1,a.1.2.1,a.1.2.2,()),((),(),()),((),(),(),()),(r3 a.2 ((r,()),())))
def dw:LD ((List Bool)×Int×vb×(List Bool)×(List (Bool×Bool))×(List Aa)) (Int×Int) (Int)where
 sk:=⟨[(0,.v (.yl 1)),(1,.p 0 0),(12,.v (.lit .bool)),(13,.i),(14,.i)],[],[.Ya Kd,.loop 440003 [(3,(.ptr 2 0)),(5,(.ptr 6 0))] .ready .normal,.Ya uR,.cells .bool,.cells (.pair .bool .bool),.cells ya,.Ya (.cons .i .nil)],0,7⟩
 p:=fun u=>(u.1.2.2.1,u.1.t3.1,(q3 u.2.2.1),u.t5.1,u.t6.1,u.t7.1)
 t:=fun u=>(u.1.t4.1,u.t8.1.1)
 n:=fun p t=>(((),(),p.1,p.2.1,t.1,()),(),(p.2.2.1.1,p.2.2.1.2.1,p.2.2.1.2.2,()),((),(),()),((),(),(),()),p.t3.1,p.t4.1,p.t5,(t.2,()),())
 st:=fun Y p t ki ke=>cond (decide (t.1<p.2.1))
  (ask (V.ja t.1 (da p.1)) (cond (gx p.1 (fa t.1) false)
  ((xk (0,t.1,0,0,p.2.2.2.1,p.2.2.2.2.1,p.2.2.2.2.2,t.2)).bind fun r1=>
  ki ((Ea (t.1+(1:Int))),r1))
  (ki ((Ea (t.1+(1:Int))),t.2))))
  (ke (t.2))
 o:=fun Z p e K=>so K (.exit 0) ⟨[(0,.v (.yl 1)),(1,.p 0 0)],[],[.Ya Kd,.loop 440003 [(3,(.ptr 2 0)),(5,(.ptr 6 0))] .ready .normal,.Ya uR,.cells .bool,.cells (.pair .bool .bool),.cells ya,.Ya (.cons .i .nil)],0,7⟩ (((),(),()),(),(p.2.2.1.1,p.2.2.1.2.1,p.2.2.1.2.2,()),((),(),()),((),(),(),()),p.t3.1,p.t4.1,p.t5,(e,()),())
 Dd:=⟨[0,1,12,13,14],[],[],[]⟩
 pe:=[(.exit 0,⟨[0,1],[],[],[]⟩)]
def bw:LD (Int×(List (Bool×Bool))×Int×Int×(Bool×Bool)×(vb×vb)) (Int×Int) (Int)where
 sk:=⟨[(0,.v (.yl 1)),(1,.p 0 0),(5,.i),(29,.v (.lit (.pair .bool .bool))),(30,.i),(31,.i),(36,.v (.agg (cL [.bool,.bool]))),(37,.i)],[],[.Ya Kd,.loop 440003 [(3,(.ptr 2 0)),(5,(.ptr 6 0))] .ready .normal,.Ya uR,.cells .bool,.cells (.pair .bool .bool),.cells ya,.Ya (.cons .i .nil)],0,7⟩
 p:=fun u=>(r4 u.1.2.2 ((u.1.t6.1.1,u.1.t6.1.2.1),(q3 u.2.2.1),(q3 u.t5)))
 t:=fun u=>(u.1.t7.1,u.t8.1.1)
 n:=fun p t=>(((),(),(r4 p ((p.t4.1.1,p.t4.1.2,()),t.1,()))),(),(p.t5.1.1,p.t5.1.2.1,p.t5.1.2.2,()),((),(),()),((),(),(),()),p.t6.1,p.t7.1,p.t8,(t.2,()),())
 st:=fun Y p t ki ke=>cond (decide (t.1<(2:Int)))
  (cond (decide (t.1=(0:Int)))
  (cond p.2.2.2.2.1.1
  ((xk ((Ea ((1:Int)+t.1)),p.1,0,0,p.2.2.2.2.2.2.1,p.2.2.2.2.2.2.2.1,p.2.2.2.2.2.2.2.2,t.2)).bind fun r1=>
  ki ((Ea (t.1+(1:Int))),r1))
  (ki ((Ea (t.1+(1:Int))),t.2)))
  (cond (decide (t.1=(1:Int)))
  (cond p.2.2.2.2.1.2
  ((xk ((Ea ((1:Int)+t.1)),p.1,0,0,p.2.2.2.2.2.2.1,p.2.2.2.2.2.2.2.1,p.2.2.2.2.2.2.2.2,t.2)).bind fun r2=>
  ki ((Ea (t.1+(1:Int))),r2))
  (ki ((Ea (t.1+(1:Int))),t.2)))
  (none)))
  (ke (t.2))
 o:=fun Z p e K=>so K (.exit 4) ⟨[(0,.v (.yl 1)),(1,.p 0 0),(29,.v (.lit (.pair .bool .bool))),(30,.i),(31,.i)],[],[.Ya Kd,.loop 440003 [(3,(.ptr 2 0)),(5,(.ptr 6 0))] .ready .normal,.Ya uR,.cells .bool,.cells (.pair .bool .bool),.cells ya,.Ya (.cons .i .nil)],0,7⟩ (((),(),(r3 p.2 ())),(),(p.t5.1.1,p.t5.1.2.1,p.t5.1.2.2,()),((),(),()),((),(),(),()),p.t6.1,p.t7.1,p.t8,(e,()),())
 Dd:=⟨[0,1,5,29,30,31,36,37],[],[],[]⟩
 pe:=[(.exit 4,⟨[0,1,29,30,31],[],[],[]⟩)]
def cw:LD ((List (Bool×Bool))×Int×vb×(List Bool)×(List (Bool×Bool))×(List Aa)) (Int×Int) (Int)where
 sk:=⟨[(0,.v (.yl 1)),(1,.p 0 0),(29,.v (.lit (.pair .bool .bool))),(30,.i),(31,.i)],[],[.Ya Kd,.loop 440003 [(3,(.ptr 2 0)),(5,(.ptr 6 0))] .ready .normal,.Ya uR,.cells .bool,.cells (.pair .bool .bool),.cells ya,.Ya (.cons .i .nil)],0,7⟩
 p:=fun u=>(u.1.2.2.1,u.1.t3.1,(q3 u.2.2.1),u.t5.1,u.t6.1,u.t7.1)
 t:=fun u=>(u.1.t4.1,u.t8.1.1)
 n:=fun p t=>(((),(),p.1,p.2.1,t.1,()),(),(p.2.2.1.1,p.2.2.1.2.1,p.2.2.1.2.2,()),((),(),()),((),(),(),()),p.t3.1,p.t4.1,p.t5,(t.2,()),())
 st:=fun Y p t ki ke=>cond (decide (t.1<p.2.1))
  (ask (V.ja t.1 (da p.1)) ((Ma (bw.m (t.1,p.1,p.2.1,t.1,(gx p.1 (fa t.1) (false,false)),p.2.2)) (0,t.2)).bind fun e1=>
  ki ((Ea (t.1+(1:Int))),e1)))
  (ke (t.2))
 o:=fun Z p e K=>so K (.exit 2) ⟨[(0,.v (.yl 1)),(1,.p 0 0)],[],[.Ya Kd,.loop 440003 [(3,(.ptr 2 0)),(5,(.ptr 6 0))] .ready .normal,.Ya uR,.cells .bool,.cells (.pair .bool .bool),.cells ya,.Ya (.cons .i .nil)],0,7⟩ (((),(),()),(),(p.2.2.1.1,p.2.2.1.2.1,p.2.2.1.2.2,()),((),(),()),((),(),(),()),p.t3.1,p.t4.1,p.t5,(e,()),())
 Dd:=⟨[0,1,29,30,31],[],[],[]⟩
 pe:=[(.exit 2,⟨[0,1],[],[],[]⟩)]
def Ds:LD ((List Aa)×Int×vb×(List Bool)×(List (Bool×Bool))×(List Aa)) (Int×Int) (Int)where
 sk:=⟨[(0,.v (.yl 1)),(54,.v (.lit ya)),(55,.i),(56,.i)],[],[.Ya Kd,.loop 440003 [(3,(.ptr 2 0)),(5,(.ptr 6 0))] .ready .normal,.Ya uR,.cells .bool,.cells (.pair .bool .bool),.cells ya,.Ya (.cons .i .nil)],0,7⟩
 p:=fun u=>(u.1.2.1,u.1.2.2.1,(q3 u.2.2.1),u.t5.1,u.t6.1,u.t7.1)
 t:=fun u=>(u.1.t3.1,u.t8.1.1)
 n:=fun p t=>(((),p.1,p.2.1,t.1,()),(),(p.2.2.1.1,p.2.2.1.2.1,p.2.2.1.2.2,()),((),(),()),((),(),(),()),p.t3.1,p.t4.1,p.t5,(t.2,()),())
 st:=fun Y p t ki ke=>cond (decide (t.1<p.2.1))
  (ask (V.ja t.1 (da p.1)) ((xk (3,0,(gx p.1 (fa t.1) Fb).1,(gx p.1 (fa t.1) Fb).2,p.2.2.2.1,p.2.2.2.2.1,p.2.2.2.2.2,t.2)).bind fun r1=>
  ki ((Ea (t.1+(1:Int))),r1)))
  (ke (t.2))
 o:=fun Z p e K=>so K (.exit 6) ⟨[],[],[.Ya Kd,.loop 440003 [(3,(.ptr 2 0)),(5,(.ptr 6 0))] .ready .normal,.Ya uR,.cells .bool,.cells (.pair .bool .bool),.cells ya,.Ya (.cons .i .nil)],0,7⟩ ((),(),(p.2.2.1.1,p.2.2.1.2.1,p.2.2.1.2.2,()),((),(),()),((),(),(),()),p.t3.1,p.t4.1,p.t5,(e,()),())
 Dd:=⟨[0,54,55,56],[],[],[]⟩
 pe:=[(.exit 6,⟨[],[],[],[]⟩)]
def mH{X:Type}(a:Y34)(K:Int->Option X):Option X:=
 (Ma (dw.m (a.1.1,(nt (da a.1.1)),a.1,a.2.1,a.2.2.1,a.2.2.2.1)) (0,a.2.2.2.2)).bind fun e1=>
 (Ma (cw.m (a.1.2.1,(nt (da a.1.2.1)),a.1,a.2.1,a.2.2.1,a.2.2.2.1)) (0,e1)).bind fun e2=>
 (Ma (Ds.m (a.1.2.2,(nt (da a.1.2.2)),a.1,a.2.1,a.2.2.1,a.2.2.2.1)) (0,e2)).bind fun e3=>
 K e3
def rA:=fun a=>mH a some
def pY:Spec:=bP.sp rA
noncomputable def ew:Env:=eE [] (Rs [] [(440003,IA)]) (qL 1 dw.q (qL 9 bw.q (qL 6 cw.q (qL 15 Ds.q qN))))
theorem RJ:LS C ew true [6,10] 66 (.loop (pc [0,1,0,0] Tryz.f69)):=fun hc=>
 lO hc dw (by intros;simp only[dw,LD.m,nn])
theorem PJ:LS C ew true [6,10] 66 (.loop (pc [1,0,1,0,0,1,1,0,0,1,1,0,0] Tryz.f69)):=fun hc=>
 lO hc bw (by intros;simp only[bw,LD.m,nn])
theorem QJ:LS C ew true [6,10] 66 (.loop (pc [1,0,1,0,0] Tryz.f69)):=fun hc=>
 lO hc cw (by intros;simp only[cw,LD.m,nn]) (hl:=(nc (by kernel_rfl) (Ua (PJ hc) Kb)))
theorem lH:LS C ew true [6,10] 66 (.loop (pc [1,1,1,0,0] Tryz.f69)):=fun hc=>
 lO hc Ds (by intros;simp only[Ds,LD.m,nn])
theorem qY:OK (5) 69 (bP.sp rA):=
 fO (d:=4) (env:=ew) (Dj cn (ccy XK cyn)) (fn:=Tryz.f69) (mc:=@mH) (by intros;simp only[rA,mH,nn]) (Fa:=[6,10]) (hl:=fun hc=>(nc (by kernel_rfl) (Ua (RJ hc) (Ua (QJ hc) (Ua (lH hc) Kb)))))
def H9:FS (p7) (Int)where
 sk:=⟨(cL [(.agg Kd),(.agg (cL [(.all 0),(.all 1),(.all 2)]))]),[.cells .bool,.cells (.pair .bool .bool),.cells ya],0⟩
 a:=fun u=>((q3 u.1.1),u.2.1,u.2.2.1,u.t3.1)
 o:=fun Z a r K=>kv K .i [.cells .bool,.cells (.pair .bool .bool),.cells ya] 0 r (a.2.1,a.2.2.1,a.t3,())
def qH:PD (vb×Int×vb) (Int)where
 sk:=⟨[(3,.p 3 0),(5,.p 4 0),(8,.v (.fn 69 (.cons (.ptr 5 0) .nil)))],[],[.cells .bool,.cells (.pair .bool .bool),.cells ya,.Ya G4,.Ya (.cons .i .nil),.Ya Kd],0,3⟩
 p:=fun u=>((q3 u.2.2),u.t6.1.1,u.t7.1.1,(u.t7.1.2.1,u.t7.1.2.2.1))
 st:=fun Y p ke=>(rA (p.2.2,p.1.1,p.1.2.1,p.1.2.2,p.2.1)).bind fun r1=>
  ke (r1)
 o:=fun Z p e K=>so K (.normal) ⟨[(5,.p 3 0)],[],[.cells .bool,.cells (.pair .bool .bool),.cells ya,.Ya (.cons .i .nil)],0,3⟩ (((),()),(),p.1.1,p.1.2.1,p.1.2.2,(e,()),())
 Dd:=⟨[3,5,8],[],[],[]⟩
 pe:=[(.normal,⟨[5],[],[],[]⟩)]
def UY{X:Type}(a:p7)(K:Int->Option X):Option X:=
 (qH.m (a.2,0,a.1)).bind fun e1=>
 K e1
def bK:=fun a=>UY a some
def gac:Spec:=H9.sp bK
noncomputable def TY:Env:=eE [] (yb [(43,XY),(69,pY)]) (qL 3 qH.q qN)
theorem ES:LS C TY true [] 17 (rfC (pc [1,1,0,1,0] Tryz.f44)):=fun hc=>
 rO (env:=TY) hc (id:=440003) (ks:=[3,5]) qH (by intros;simp only[qH,PD.m,nn])
theorem iac:OK (6) 44 (H9.sp bK):=
 fO (d:=5) (env:=TY) (Da (cc YY (cc qY cn))) (fn:=Tryz.f44) (mc:=@UY) (by intros;simp only[bK,UY,nn]) (hl:=fun hc=>(nc (by kernel_rfl) (Ua (ES hc) Kb)))
def xP:FS (Unit) (Unit)where
 sk:=⟨(.cons (.agg (cL [.Xa,.Xa,.Xa])) .nil),[],0⟩
 a:=fun u=>()
 o:=fun Z a r K=>kv K (.fn 69 (.cons (.ptr 0 0) .nil)) [.Ya (cL [.Xa,.Xa,.Xa])] 0 ((),()) (((),(),(),()),())
def sH{X:Type}(a:Unit)(K:Unit->Option X):Option X:=
 K ()
def rH:=fun a=>sH a some
def VY:Spec:=xP.sp rH
noncomputable def D6:Env:=eE [] (yb []) qN
theorem WY:OK (1) 43 (xP.sp rH):=
 fO (d:=0) (env:=D6) (Da cn) (fn:=Tryz.f43) (mc:=@sH) (by intros;simp only[rH,sH,nn])
def aP:FS (Y3) (Y3)where
 sk:=⟨(cL [(.yl 1),(.ptr 0 0)]),[.Ya (cL [.Xa,.Xa,.Xa]),.loop 230003 [(5,(.ptr 2 0))] .ready .normal,.Ya uR,.cells .bool,.cells (.pair .bool .bool),.cells ya],0⟩
 a:=fun u=>(u.t4.1,u.t5.1,u.t6.1)
 o:=fun Z a r K=>kv K (.Sc .nil) [.Ya (cL [.Xa,.Xa,.Xa]),.loop 230003 [(5,(.ptr 2 0))] .ready .normal,.Ya iI,.cells .bool,.cells (.pair .bool .bool),.dead,.cells ya] 0 () (((),(),(),()),((),()),((),(),(),()),r.1,r.2.1,(),r.2.2,())
def Yv:LD ((List Bool)×Int) (vQ) (Y3)where
 sk:=⟨[(0,.v (.yl 1)),(1,.p 0 0),(12,.v (.lit .bool)),(13,.i),(14,.i)],[],[.Ya (cL [.Xa,.Xa,.Xa]),.loop 230003 [(5,(.ptr 2 0))] .ready .normal,.Ya iI,.cells .bool,.cells (.pair .bool .bool),.dead,.cells ya],0,6⟩
 p:=fun u=>(u.1.2.2.1,u.1.t3.1)
 t:=fun u=>(u.1.t4.1,u.t5.1,u.t6.1,u.t8.1)
 n:=fun p t=>(((),(),p.1,p.2,t.1,()),(),((),(),(),()),((),()),((),(),(),()),t.2.1,t.2.2.1,(),t.t3,())
 st:=fun Y p t ki ke=>cond (decide (t.1<p.2))
  (ask (V.ja t.1 (da p.1)) (cond (gx p.1 (fa t.1) false)
  ((Vd (0,t.1,0,0,t.2.1,t.2.2.1,t.2.2.2)).bind fun r1=>
  Sum.elim (fun r2=>ki ((Ea (t.1+(1:Int))),r2.1,r2.2,t.2.2.2))
  (fun r3=>ki ((Ea (t.1+(1:Int))),t.2.1,t.2.2.1,r3)) r1)
  (ki ((Ea (t.1+(1:Int))),t.2.1,t.2.2.1,t.2.2.2))))
  (ke ((t.2.1,t.2.2.1,t.2.2.2)))
 o:=fun Z p e K=>so K (.exit 0) ⟨[(0,.v (.yl 1)),(1,.p 0 0)],[],[.Ya (cL [.Xa,.Xa,.Xa]),.loop 230003 [(5,(.ptr 2 0))] .ready .normal,.Ya iI,.cells .bool,.cells (.pair .bool .bool),.dead,.cells ya],0,6⟩ (((),(),()),(),((),(),(),()),((),()),((),(),(),()),e.1,e.2.1,(),e.2.2,())
 Dd:=⟨[0,1,12,13,14],[(12,(.lit .bool))],[],[(2,[.any,.any,(.mv ya)])]⟩
 pe:=[(.exit 0,⟨[0,1],[],[],[]⟩)]
def Wv:LD (Int×((List (Bool×Bool))×Int)×Int×(Bool×Bool)) (vQ) (Y3)where
 sk:=⟨[(0,.v (.yl 1)),(1,.p 0 0),(5,.i),(29,.v (.lit (.pair .bool .bool))),(30,.i),(31,.i),(36,.v (.agg (cL [.bool,.bool]))),(37,.i)],[],[.Ya (cL [.Xa,.Xa,.Xa]),.loop 230003 [(5,(.ptr 2 0))] .ready .normal,.Ya iI,.cells .bool,.cells (.pair .bool .bool),.dead,.cells ya],0,6⟩
 p:=fun u=>(u.1.2.2.1,(u.1.t3.1,u.1.t4.1),u.1.t5.1,u.1.t6.1.1,u.1.t6.1.2.1)
 t:=fun u=>(u.1.t7.1,u.t5.1,u.t6.1,u.t8.1)
 n:=fun p t=>(((),(),p.1,p.2.1.1,p.2.1.2,p.2.2.1,(p.t3.1,p.t4,()),t.1,()),(),((),(),(),()),((),()),((),(),(),()),t.2.1,t.2.2.1,(),t.t3,())
 st:=fun Y p t ki ke=>cond (decide (t.1<(2:Int)))
  (cond (decide (t.1=(0:Int)))
  (cond p.2.2.2.1
  ((Vd ((Ea ((1:Int)+t.1)),p.1,0,0,t.2.1,t.2.2.1,t.2.2.2)).bind fun r1=>
  Sum.elim (fun r2=>ki ((Ea (t.1+(1:Int))),r2.1,r2.2,t.2.2.2))
  (fun r3=>ki ((Ea (t.1+(1:Int))),t.2.1,t.2.2.1,r3)) r1)
  (ki ((Ea (t.1+(1:Int))),t.2.1,t.2.2.1,t.2.2.2)))
  (cond (decide (t.1=(1:Int)))
  (cond p.2.2.2.2
  ((Vd ((Ea ((1:Int)+t.1)),p.1,0,0,t.2.1,t.2.2.1,t.2.2.2)).bind fun r4=>
  Sum.elim (fun r5=>ki ((Ea (t.1+(1:Int))),r5.1,r5.2,t.2.2.2))
  (fun r6=>ki ((Ea (t.1+(1:Int))),t.2.1,t.2.2.1,r6)) r4)
  (ki ((Ea (t.1+(1:Int))),t.2.1,t.2.2.1,t.2.2.2)))
  (none)))
  (ke ((t.2.1,t.2.2.1,t.2.2.2)))
 o:=fun Z p e K=>so K (.exit 4) ⟨[(0,.v (.yl 1)),(1,.p 0 0),(29,.v (.lit (.pair .bool .bool))),(30,.i),(31,.i)],[],[.Ya (cL [.Xa,.Xa,.Xa]),.loop 230003 [(5,(.ptr 2 0))] .ready .normal,.Ya iI,.cells .bool,.cells (.pair .bool .bool),.dead,.cells ya],0,6⟩ (((),(),p.2.1.1,p.2.1.2,p.2.2.1,()),(),((),(),(),()),((),()),((),(),(),()),e.1,e.2.1,(),e.2.2,())
 Dd:=⟨[0,1,5,29,30,31,36,37],[],[],[]⟩
 pe:=[(.exit 4,⟨[0,1,29,30,31],[],[],[]⟩)]
def Xv:LD ((List (Bool×Bool))×Int) (vQ) (Y3)where
 sk:=⟨[(0,.v (.yl 1)),(1,.p 0 0),(29,.v (.lit (.pair .bool .bool))),(30,.i),(31,.i)],[],[.Ya (cL [.Xa,.Xa,.Xa]),.loop 230003 [(5,(.ptr 2 0))] .ready .normal,.Ya iI,.cells .bool,.cells (.pair .bool .bool),.dead,.cells ya],0,6⟩
 p:=fun u=>(u.1.2.2.1,u.1.t3.1)
 t:=fun u=>(u.1.t4.1,u.t5.1,u.t6.1,u.t8.1)
 n:=fun p t=>(((),(),p.1,p.2,t.1,()),(),((),(),(),()),((),()),((),(),(),()),t.2.1,t.2.2.1,(),t.t3,())
 st:=fun Y p t ki ke=>cond (decide (t.1<p.2))
  (ask (V.ja t.1 (da p.1)) ((Ma (Wv.m (t.1,p,t.1,(gx p.1 (fa t.1) (false,false)))) (0,t.2.1,t.2.2.1,t.2.2.2)).bind fun e1=>
  ki ((Ea (t.1+(1:Int))),e1.1,e1.2.1,e1.2.2)))
  (ke ((t.2.1,t.2.2.1,t.2.2.2)))
 o:=fun Z p e K=>so K (.exit 2) ⟨[(0,.v (.yl 1)),(1,.p 0 0)],[],[.Ya (cL [.Xa,.Xa,.Xa]),.loop 230003 [(5,(.ptr 2 0))] .ready .normal,.Ya iI,.cells .bool,.cells (.pair .bool .bool),.dead,.cells ya],0,6⟩ (((),(),()),(),((),(),(),()),((),()),((),(),(),()),e.1,e.2.1,(),e.2.2,())
 Dd:=⟨[0,1,29,30,31],[(29,(.lit (.pair .bool .bool)))],[],[]⟩
 pe:=[(.exit 2,⟨[0,1],[],[],[]⟩)]
def Cs:LD ((List Aa)×Int) (vQ) (Y3)where
 sk:=⟨[(0,.v (.yl 1)),(54,.v (.lit ya)),(55,.i),(56,.i)],[],[.Ya (cL [.Xa,.Xa,.Xa]),.loop 230003 [(5,(.ptr 2 0))] .ready .normal,.Ya iI,.cells .bool,.cells (.pair .bool .bool),.dead,.cells ya],0,6⟩
 p:=fun u=>(u.1.2.1,u.1.2.2.1)
 t:=fun u=>(u.1.t3.1,u.t5.1,u.t6.1,u.t8.1)
 n:=fun p t=>(((),p.1,p.2,t.1,()),(),((),(),(),()),((),()),((),(),(),()),t.2.1,t.2.2.1,(),t.t3,())
 st:=fun Y p t ki ke=>cond (decide (t.1<p.2))
  (ask (V.ja t.1 (da p.1)) ((Vd (3,0,(gx p.1 (fa t.1) Fb).1,(gx p.1 (fa t.1) Fb).2,t.2.1,t.2.2.1,t.2.2.2)).bind fun r1=>
  Sum.elim (fun r2=>ki ((Ea (t.1+(1:Int))),r2.1,r2.2,t.2.2.2))
  (fun r3=>ki ((Ea (t.1+(1:Int))),t.2.1,t.2.2.1,r3)) r1))
  (ke ((t.2.1,t.2.2.1,t.2.2.2)))
 o:=fun Z p e K=>so K (.exit 6) ⟨[],[],[.Ya (cL [.Xa,.Xa,.Xa]),.loop 230003 [(5,(.ptr 2 0))] .ready .normal,.Ya iI,.cells .bool,.cells (.pair .bool .bool),.dead,.cells ya],0,6⟩ ((),(),((),(),(),()),((),()),((),(),(),()),e.1,e.2.1,(),e.2.2,())
 Dd:=⟨[0,54,55,56],[(54,(.lit ya))],[],[]⟩
 pe:=[(.exit 6,⟨[],[],[],[]⟩)]
def kH{X:Type}(a:Y3)(K:Y3->Option X):Option X:=
 (Ma (Yv.m ([],0)) (0,a.1,a.2.1,a.2.2)).bind fun e1=>
 (Ma (Xv.m ([],0)) (0,e1.1,e1.2.1,e1.2.2)).bind fun e2=>
 (Ma (Cs.m ([],0)) (0,e2.1,e2.2.1,e2.2.2)).bind fun e3=>
 K (e3.1,e3.2.1,e3.2.2)
def qA:=fun a=>kH a some
def mY:Spec:=aP.sp qA
noncomputable def Zv:Env:=eE [] (Rs [] [(230003,Ut)]) (qL 1 Yv.q (qL 9 Wv.q (qL 6 Xv.q (qL 15 Cs.q qN))))
theorem OJ:LS C Zv true [6,10] 66 (.loop (pc [0,1,0,0] Tryz.f69)):=fun hc=>
 lO hc Yv (by intros;simp only[Yv,LD.m,nn])
theorem MJ:LS C Zv true [6,10] 66 (.loop (pc [1,0,1,0,0,1,1,0,0,1,1,0,0] Tryz.f69)):=fun hc=>
 lO hc Wv (by intros;simp only[Wv,LD.m,nn])
theorem NJ:LS C Zv true [6,10] 66 (.loop (pc [1,0,1,0,0] Tryz.f69)):=fun hc=>
 lO hc Xv (by intros;simp only[Xv,LD.m,nn]) (hl:=(nc (by kernel_rfl) (Ua (MJ hc) Kb)))
theorem jH:LS C Zv true [6,10] 66 (.loop (pc [1,1,1,0,0] Tryz.f69)):=fun hc=>
 lO hc Cs (by intros;simp only[Cs,LD.m,nn])
theorem nY:OK (5) 69 (aP.sp qA):=
 fO (d:=4) (env:=Zv) (Dj cn (ccy KA cyn)) (fn:=Tryz.f69) (mc:=@kH) (by intros;simp only[qA,kH,nn]) (Fa:=[6,10]) (hl:=fun hc=>(nc (by kernel_rfl) (Ua (OJ hc) (Ua (NJ hc) (Ua (jH hc) Kb)))))
end
end Go.U
end
