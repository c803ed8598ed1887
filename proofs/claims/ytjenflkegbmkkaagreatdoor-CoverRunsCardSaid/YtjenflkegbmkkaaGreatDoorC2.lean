/- The functions of the program as Lean functions, and that the evaluator says so. -/
import Derived.Test.YtjenflkegbmkkaaGreatDoorC1
set_option linter.unusedVariables false
set_option linter.unusedSimpArgs false
set_option linter.unusedSectionVars false
open Int renaming toNat→fa
open List renaming length→da,replicate→Ca,set→Qa
section
set_option maxRecDepth 100000
namespace Go.U
open Go Go.Proofs
noncomputable section
variable {C:V.Callee}
def S9:FS (Unit) (Y2)where
 sk:=⟨.nil,[],0⟩
 a:=fun u=>()
 o:=fun Z a r K=>kv K (.agg jb) [] 0 (r.1,(0:Int),(3:Int),(0:Int),(r3 r.2 (r.t4,()))) ()
def oZ{X:Type}(a:Unit)(K:Y2->Option X):Option X:=
 K (([(17,(0,(0,(0,(0,(0,(1,(-1)))))))),(12,(1,(0,(0,(0,(0,(2,(-1)))))))),(13,(0,(1,(0,(0,(0,(3,(-1)))))))),(1,(2,(0,(0,(3,(0,(4,(-1)))))))),(15,(0,(0,(2,(15,(0,(6,5))))))),(21,(0,(0,(0,(0,(1,((-1),(-1)))))))),(18,(0,(0,(0,(0,(0,(0,(-1))))))))]:List Wa),([((str [115]),(1,((-5),5)))]:List Cb),([((str [120]),(1,0))]:List Zb),[],([(0,0),(0,32)]:List Aa))
def nZ:=fun a=>oZ a some
def xac:Spec:=S9.sp nZ
noncomputable def pah:Env:=eE [] (yb []) qN
theorem yac:OK (1) 34 (S9.sp nZ):=
 fO (d:=0) (env:=pah) (Da cn) (fn:=Tryz.f34) (mc:=@oZ) (by intros;simp only[nZ,oZ,nn]) (Fa:=[0]) (sh:=(.agg [(.lit Qd),.any,.any,.any,(.lit Sd),(.lit Sf),(.lit Sd),(.lit ya)])) (fz:=true)
def a_:FS (Ga) (Y3)where
 sk:=⟨(.cons (.agg jb) .nil),[],0⟩
 a:=fun u=>(q8 u.1.1)
 o:=fun Z a r K=>kv K (.agg (cL [(.all 0),(.all 1),(.all 2)])) [.cells .bool,.cells (.pair .bool .bool),.cells ya] 0 ((),(),(),()) (r.1,r.2.1,r.2.2,())
def dQ{X:Type}(a:Ga)(K:Y3->Option X):Option X:=
 ask (decide (0<=(nt (da a.1)))&&decide ((nt (da a.1))<=(nt (da a.1)))&&decide (1 * (nt (da a.1))<=70368744177664)&&decide ((nt (da a.1))<9223372036854775808)) (ask (decide (0<=(nt (da a.1)))&&decide ((nt (da a.1))<=(nt (da a.1)))&&decide (2 * (nt (da a.1))<=70368744177664)&&decide ((nt (da a.1))<9223372036854775808)) (K ((Ca (fa (nt (da a.1))) (false:Bool)),(Ca (fa (nt (da a.1))) ((false,false):(Bool×Bool))),[])))
def Nt:=fun a=>dQ a some
def BH:Spec:=a_.sp Nt
noncomputable def uah:Env:=eE [] (yb []) qN
theorem CH:OK (1) 14 (a_.sp Nt):=
 fO (d:=0) (env:=uah) (Da cn) (fn:=Tryz.f14) (mc:=@dQ) (by intros;simp only[Nt,dQ,nn]) (Fa:=[1,2]) (sh:=(.agg [(.own .bool),(.own (.pair .bool .bool)),(.own ya)]))
def x9:FS (Y4) (Y5)where
 sk:=⟨(cL [(.agg jb),(.lit .i),.i]),[],0⟩
 a:=fun u=>((q8 u.1.1),u.1.2.1,u.1.2.2.1)
 o:=fun Z a r K=>kv K (.ptr 0 0) [.Ya kr0,.cells .i,.deep .i] 0 () ((r7 a.1 (a.1.t7,a.2.1,r.1,(),(0:Int),(0:Int),(0:Int),(0:Int),(0:Int),(0:Int),(),(),(),())),r.2.1,r.2.2,())
def Bq:LD ((List Zb)×Int×Ga×Ga×(List Int)×Int×Int×Int×Int×Int×Int×Int) (Int×(List Int)) ((List Int))where
 sk:=⟨[(3,.loc 0 0),(7,.p 0 0),(24,.v (.lit Sf)),(25,.i),(26,.i)],[jb],[.Ya kr1,.cells .i],0,0⟩
 p:=fun u=>(u.1.2.1,u.1.2.2.1,(q8 u.2.1.1),(q8 u.2.2.1),u.2.2.1.t8.1,u.2.2.1.t9.1,(r5 u.2.2.1.t11 u.2.2.1.t16.1))
 t:=fun u=>(u.1.t3.1,u.t3.1)
 n:=fun p t=>(((),p.1,p.2.1,t.1,()),((r7 p.2.2.1 (p.2.2.1.t7,())),()),(r7 p.t3.1 (p.t3.1.t7,p.t4.1,p.t5.1,(),(r5 p.t6 (p.t11,(),(),(),())))),t.2,())
 st:=fun Y p t ki ke=>cond (decide (t.1<p.2.1))
  (ask (V.ja t.1 (da p.1)) (ask (V.ja t.1 (da t.2)) (ki ((Ea (t.1+(1:Int))),(Qa t.2 (fa t.1) (gx p.1 (fa t.1) Bc).2.2)))))
  (ke (t.2))
 o:=fun Z p e K=>so K (.exit 0) ⟨[(3,.loc 0 0),(7,.p 0 0)],[jb],[.Ya kr1,.cells .i],0,0⟩ (((),()),((r7 p.2.2.1 (p.2.2.1.t7,())),()),(r7 p.t3.1 (p.t3.1.t7,p.t4.1,p.t5.1,(),(r5 p.t6 (p.t11,(),(),(),())))),e,())
 Dd:=⟨[3,7,24,25,26],[],[],[]⟩
 pe:=[(.exit 0,⟨[3,7],[],[],[]⟩)]
def Yl:LD ((List Cb)×Int×Int×Int×Cb×(Ga×((List Int)×(Int×(Int×(Int×(Int×(Int×(Int×(Int×(List Int))))))))))×(List (List Int))) (Int×(List Int)) ((List Int))where
 sk:=⟨[(7,.p 0 0),(11,.loc 0 0),(12,.v (.all 3)),(41,.v (.lit Sd)),(42,.i),(43,.i),(51,.i),(52,.i)],[Y_],[.Ya kr0,.cells .i,.deep .i,.cells .i],0,0⟩
 p:=fun u=>(r4 u.1.2.2 ((q4 u.2.1.1),((q8 u.2.2.1),(u.2.2.1.t8.1,(u.2.2.1.t9.1,(u.2.2.1.t11.1,(u.2.2.1.t12.1,(u.2.2.1.t13.1,(u.2.2.1.t14.1,(u.2.2.1.t15.1,(u.2.2.1.t16.1,u.t3.1))))))))),u.t4.1))
 t:=fun u=>(u.1.t6.1,u.t5.1)
 n:=fun p t=>(((),(),(r4 p (t.1,()))),((r3 p.t4.1 (p.t4.1.t3,())),()),(r7 p.t5.1.1 (p.t5.1.1.t7,p.t5.1.2.1,p.t5.1.2.2.1,(),(r6 p.t5.1.t3 ((),(),(),())))),p.t5.1.t9,p.t6,t.2,())
 st:=fun Y p t ki ke=>cond (decide (t.1<p.2.2.2.1))
  (ask (V.ja t.1 (da t.2)) (ki ((Ea (t.1+(1:Int))),(Qa t.2 (fa t.1) p.2.2.2.2.1.2.2.2))))
  (ke (t.2))
 o:=fun Z p e K=>so K (.exit 4) ⟨[(7,.p 0 0),(12,.v (.all 3)),(41,.v (.lit Sd)),(42,.i),(43,.i)],[],[.Ya kr0,.cells .i,.deep .i,.cells .i],0,0⟩ (((),(),(r3 p ())),(),(r7 p.t5.1.1 (p.t5.1.1.t7,p.t5.1.2.1,p.t5.1.2.2.1,(),(r6 p.t5.1.t3 ((),(),(),())))),p.t5.1.t9,p.t6,e,())
 Dd:=⟨[7,11,12,41,42,43,51,52],[],[],[]⟩
 pe:=[(.exit 4,⟨[7,12,41,42,43],[],[],[]⟩)]
def Aq:LD ((List Cb)×Int×Ga×(List Int)×Int×Int×Int×Int×Int×Int×Int×(List Int)) (Y6) ((List (List Int)))where
 sk:=⟨[(7,.p 0 0),(41,.v (.lit Sd)),(42,.i),(43,.i)],[],[.Ya kr0,.cells .i,.deep .i],0,0⟩
 p:=fun u=>(u.1.2.1,u.1.2.2.1,(q8 u.2.2.1),u.2.2.1.t8.1,u.2.2.1.t9.1,(r6 u.2.2.1.t11 u.t3.1))
 t:=fun u=>(u.1.t3.1,u.t4.1)
 n:=fun p t=>(((),p.1,p.2.1,t.1,()),(),(r7 p.2.2.1 (p.2.2.1.t7,p.t3.1,p.t4.1,(),(r6 p.t5 ((),(),(),())))),p.t11,t.2,())
 st:=fun Y p t ki ke=>cond (decide (t.1<p.2.1))
  (ask (V.ja t.1 (da p.1)) (ask (decide (0<=(gx p.1 (fa t.1) fb).2.2.1)&&decide ((gx p.1 (fa t.1) fb).2.2.1<=(gx p.1 (fa t.1) fb).2.2.1)&&decide (8 * (gx p.1 (fa t.1) fb).2.2.1<=70368744177664)&&decide ((gx p.1 (fa t.1) fb).2.2.1<9223372036854775808)) ((Ma (Yl.m (p.1,p.2.1,t.1,(nt (da (Ca (fa (gx p.1 (fa t.1) fb).2.2.1) (0:Int)))),(gx p.1 (fa t.1) fb),p.2.2,t.2)) (0,(Ca (fa (gx p.1 (fa t.1) fb).2.2.1) (0:Int)))).bind fun e1=>
  ask (decide (((da t.2)+(da ([e1]:List (List Int)))) * 24<=70368744177664)&&decide (((da t.2)+(da ([e1]:List (List Int))))<9223372036854775808)) (ki ((Ea (t.1+(1:Int))),(t.2++([e1]:List (List Int))))))))
  (ke (t.2))
 o:=fun Z p e K=>so K (.exit 2) ⟨[(7,.p 0 0)],[],[.Ya kr0,.cells .i,.deep .i],0,0⟩ (((),()),(),(r7 p.2.2.1 (p.2.2.1.t7,p.t3.1,p.t4.1,(),(r6 p.t5 ((),(),(),())))),p.t11,e,())
 Dd:=⟨[7,41,42,43],[],[],[(0,[.any,.any,.any,.any,.any,.any,.any,.any,.any,.any,.any,.any,.any,.any,.any,.any,.any,.any,(.deep (.int .i64)),.any])]⟩
 pe:=[(.exit 2,⟨[7],[],[],[]⟩)]
def rP{X:Type}(a:Y4)(K:(Y5)->Option X):Option X:=
 ask (decide (0<=a.1.2.2.1)&&decide (a.1.2.2.1<=a.1.2.2.1)&&decide (8 * a.1.2.2.1<=70368744177664)&&decide (a.1.2.2.1<9223372036854775808)) ((Ma (Bq.m (a.1.2.2.2.2.2.1,(nt (da a.1.2.2.2.2.2.1)),a.1,a.1,a.2.1,(if 0>a.2.2 then 0 else a.2.2),0,0,0,0,0,0)) (0,(Ca (fa a.1.2.2.1) (0:Int)))).bind fun e1=>
 (Ma (Aq.m (a.1.2.2.2.2.2.2.1,(nt (da a.1.2.2.2.2.2.2.1)),a.1,a.2.1,(if 0>a.2.2 then 0 else a.2.2),0,0,0,0,0,0,e1)) (0,[])).bind fun e2=>
 K ((if 0>a.2.2 then 0 else a.2.2),e1,e2))
def jF:=fun a=>rP a some
def bac:Spec:=x9.sp jF
noncomputable def qP:Env:=eE [] (yb []) (qL 3 Bq.q (qL 12 Yl.q (qL 8 Aq.q qN)))
theorem DS:LS C qP true [3,9,11] 75 (.loop (pc [1,1,0,1,0,0] Tryz.f55)):=fun hc=>
 lO hc Bq (by intros;simp only[Bq,LD.m,nn])
theorem vM:LS C qP true [3,9,11] 75 (.loop (pc [1,1,1,0,1,0,0,1,1,0,0,1,1,0,1,0,0] Tryz.f55)):=fun hc=>
 lO hc Yl (by intros;simp only[Yl,LD.m,nn])
theorem CS:LS C qP true [3,9,11] 75 (.loop (pc [1,1,1,0,1,0,0] Tryz.f55)):=fun hc=>
 lO hc Aq (by intros;simp only[Aq,LD.m,nn]) (hl:=(nc (by kernel_rfl) (Ua (vM hc) Kb)))
theorem cac:OK (1) 55 (x9.sp jF):=
 fO (d:=0) (env:=qP) (Da cn) (fn:=Tryz.f55) (mc:=@rP) (by intros;simp only[jF,rP,nn]) (Fa:=[3,9,11]) (hl:=fun hc=>(nc (by kernel_rfl) (Ua (DS hc) (Ua (CS hc) Kb))))
def gY:FS (Bool) (Unit)where
 sk:=⟨(cL [(.fn 81 .nil),.bool]),[],0⟩
 a:=fun u=>u.1.2.1
 o:=fun Z a r K=>kv K (.fn 76 (cL [(.ptr 0 0),(.ptr 1 0)])) [.Ya (.cons (.fn 81 .nil) .nil),.Ya (.cons .bool .nil)] 0 ((),(),()) (((),()),(a,()),())
def jY{X:Type}(a:Bool)(K:Unit->Option X):Option X:=
 K ()
def iY:=fun a=>jY a some
def Bab:Spec:=gY.sp iY
noncomputable def Uag:Env:=eE [] (yb []) qN
theorem Cab:OK (1) 75 (gY.sp iY):=
 fO (d:=0) (env:=Uag) (Da cn) (fn:=Tryz.f75) (mc:=@jY) (by intros;simp only[iY,jY,nn])
def dH:FS (Bool) (Unit)where
 sk:=⟨(cL [(.fn 82 .nil),.bool]),[],0⟩
 a:=fun u=>u.1.2.1
 o:=fun Z a r K=>kv K (.fn 76 (cL [(.ptr 0 0),(.ptr 1 0)])) [.Ya (.cons (.fn 82 .nil) .nil),.Ya (.cons .bool .nil)] 0 ((),(),()) (((),()),(a,()),())
def fH{X:Type}(a:Bool)(K:Unit->Option X):Option X:=
 K ()
def eH:=fun a=>fH a some
def dY:Spec:=dH.sp eH
noncomputable def w6:Env:=eE [] (yb []) qN
theorem eY:OK (1) 75 (dH.sp eH):=
 fO (d:=0) (env:=w6) (Da cn) (fn:=Tryz.f75) (mc:=@fH) (by intros;simp only[eH,fH,nn])
def aH:FS (Bool) (Unit)where
 sk:=⟨(cL [(.fn 83 .nil),.bool]),[],0⟩
 a:=fun u=>u.1.2.1
 o:=fun Z a r K=>kv K (.fn 76 (cL [(.ptr 0 0),(.ptr 1 0)])) [.Ya (.cons (.fn 83 .nil) .nil),.Ya (.cons .bool .nil)] 0 ((),(),()) (((),()),(a,()),())
def cH{X:Type}(a:Bool)(K:Unit->Option X):Option X:=
 K ()
def bH:=fun a=>cH a some
def aY:Spec:=aH.sp bH
noncomputable def u6:Env:=eE [] (yb []) qN
theorem bY:OK (1) 75 (aH.sp bH):=
 fO (d:=0) (env:=u6) (Da cn) (fn:=Tryz.f75) (mc:=@cH) (by intros;simp only[bH,cH,nn])
def XG:FS (Bool) (Unit)where
 sk:=⟨(cL [(.fn 84 .nil),.bool]),[],0⟩
 a:=fun u=>u.1.2.1
 o:=fun Z a r K=>kv K (.fn 76 (cL [(.ptr 0 0),(.ptr 1 0)])) [.Ya (.cons (.fn 84 .nil) .nil),.Ya (.cons .bool .nil)] 0 ((),(),()) (((),()),(a,()),())
def ZG{X:Type}(a:Bool)(K:Unit->Option X):Option X:=
 K ()
def YG:=fun a=>ZG a some
def YX:Spec:=XG.sp YG
noncomputable def p6:Env:=eE [] (yb []) qN
theorem ZX:OK (1) 75 (XG.sp YG):=
 fO (d:=0) (env:=p6) (Da cn) (fn:=Tryz.f75) (mc:=@ZG) (by intros;simp only[YG,ZG,nn])
def UG:FS (Bool) (Unit)where
 sk:=⟨(cL [(.fn 85 .nil),.bool]),[],0⟩
 a:=fun u=>u.1.2.1
 o:=fun Z a r K=>kv K (.fn 76 (cL [(.ptr 0 0),(.ptr 1 0)])) [.Ya (.cons (.fn 85 .nil) .nil),.Ya (.cons .bool .nil)] 0 ((),(),()) (((),()),(a,()),())
def WG{X:Type}(a:Bool)(K:Unit->Option X):Option X:=
 K ()
def VG:=fun a=>WG a some
def WX:Spec:=UG.sp VG
noncomputable def o6:Env:=eE [] (yb []) qN
theorem XX:OK (1) 75 (UG.sp VG):=
 fO (d:=0) (env:=o6) (Da cn) (fn:=Tryz.f75) (mc:=@WG) (by intros;simp only[VG,WG,nn])
def RG:FS (Bool) (Unit)where
 sk:=⟨(cL [(.fn 87 .nil),.bool]),[],0⟩
 a:=fun u=>u.1.2.1
 o:=fun Z a r K=>kv K (.fn 76 (cL [(.ptr 0 0),(.ptr 1 0)])) [.Ya (.cons (.fn 87 .nil) .nil),.Ya (.cons .bool .nil)] 0 ((),(),()) (((),()),(a,()),())
def TG{X:Type}(a:Bool)(K:Unit->Option X):Option X:=
 K ()
def SG:=fun a=>TG a some
def UX:Spec:=RG.sp SG
noncomputable def l6:Env:=eE [] (yb []) qN
theorem VX:OK (1) 75 (RG.sp SG):=
 fO (d:=0) (env:=l6) (Da cn) (fn:=Tryz.f75) (mc:=@TG) (by intros;simp only[SG,TG,nn])
def XO:FS (Bool) (Unit)where
 sk:=⟨(cL [(.fn 88 .nil),.bool]),[],0⟩
 a:=fun u=>u.1.2.1
 o:=fun Z a r K=>kv K (.fn 76 (cL [(.ptr 0 0),(.ptr 1 0)])) [.Ya (.cons (.fn 88 .nil) .nil),.Ya (.cons .bool .nil)] 0 ((),(),()) (((),()),(a,()),())
def QG{X:Type}(a:Bool)(K:Unit->Option X):Option X:=
 K ()
def PG:=fun a=>QG a some
def SX:Spec:=XO.sp PG
noncomputable def j6:Env:=eE [] (yb []) qN
theorem TX:OK (1) 75 (XO.sp PG):=
 fO (d:=0) (env:=j6) (Da cn) (fn:=Tryz.f75) (mc:=@QG) (by intros;simp only[PG,QG,nn])
def w9:FS (Unit) (Unit)where
 sk:=⟨.nil,[],0⟩
 a:=fun u=>()
 o:=fun Z a r K=>kv K (.agg (cL [.bf,(.fn 80 .nil),(.fn 76 (cL [(.ptr 0 0),(.ptr 1 0)])),(.fn 76 (cL [(.ptr 2 0),(.ptr 3 0)])),(.fn 76 (cL [(.ptr 4 0),(.ptr 5 0)])),(.fn 76 (cL [(.ptr 6 0),(.ptr 7 0)])),(.fn 76 (cL [(.ptr 8 0),(.ptr 9 0)])),(.fn 86 .nil),(.fn 86 .nil),(.fn 76 (cL [(.ptr 10 0),(.ptr 11 0)])),(.fn 76 (cL [(.ptr 12 0),(.ptr 13 0)])),(.fn 89 .nil),(.fn 90 .nil),(.fn 91 .nil),(.fn 92 .nil),(.fn 93 .nil),(.fn 79 .nil),(.fn 94 .nil),(.fn 95 .nil),(.fn 79 .nil),(.fn 96 .nil),(.fn 98 .nil)])) [.Ya (.cons (.fn 81 .nil) .nil),.Ya (.cons .bool .nil),.Ya (.cons (.fn 82 .nil) .nil),.Ya (.cons .bool .nil),.Ya (.cons (.fn 83 .nil) .nil),.Ya (.cons .bool .nil),.Ya (.cons (.fn 84 .nil) .nil),.Ya (.cons .bool .nil),.Ya (.cons (.fn 85 .nil) .nil),.Ya (.cons .bool .nil),.Ya (.cons (.fn 87 .nil) .nil),.Ya (.cons .bool .nil),.Ya (.cons (.fn 88 .nil) .nil),.Ya (.cons .bool .nil)] 0 ((),(),((),(),()),((),(),()),((),(),()),((),(),()),((),(),()),(),(),((),(),()),((),(),()),(),(),(),(),(),(),(),(),(),(),(),()) (((),()),(true,()),((),()),(true,()),((),()),(true,()),((),()),(true,()),((),()),(true,()),((),()),(false,()),((),()),(false,()),())
def JY{X:Type}(a:Unit)(K:Unit->Option X):Option X:=
 K ()
def IY:=fun a=>JY a some
def Zab:Spec:=w9.sp IY
noncomputable def eah:Env:=eE [] (yb [(75,(alt gY.tk Bab (alt dH.tk dY (alt aH.tk aY (alt XG.tk YX (alt UG.tk WX (alt RG.tk UX SX)))))))]) qN
theorem aac:OK (2) 56 (w9.sp IY):=
 fO (d:=1) (env:=eah) (Da (cA Cab (cA eY (cA bY (cA ZX (cA XX (cA VX (cc TX cn)))))))) (fn:=Tryz.f56) (mc:=@JY) (by intros;simp only[IY,JY,nn]) (Fa:=[0])
def X8:FS (Wa×(List Int)) (Bool)where
 sk:=⟨(cL [(.agg Mb),(.all 0)]),[.cells .i],0⟩
 a:=fun u=>((q8 u.1.1),u.2.1)
 o:=fun Z a r K=>kv K (.bool) [.cells .i] 0 r (a.2,())
def gP{X:Type}(a:Wa×(List Int))(K:Bool->Option X):Option X:=
 ask (V.ja a.1.2.2.1 (da a.2)) (ask (V.ja a.1.2.2.2.1 (da a.2)) (cond (decide ((Ea (a.1.2.2.2.2.1-(14:Int)))=(0:Int)))
 (K (decide ((gx a.2 (fa a.1.2.2.1) (0:Int))=(gx a.2 (fa a.1.2.2.2.1) (0:Int)))))
 (cond (decide ((Ea (a.1.2.2.2.2.1-(14:Int)))=(1:Int)))
 (K (!(decide ((gx a.2 (fa a.1.2.2.1) (0:Int))=(gx a.2 (fa a.1.2.2.2.1) (0:Int))))))
 (cond (decide ((Ea (a.1.2.2.2.2.1-(14:Int)))=(2:Int)))
 (K (decide ((gx a.2 (fa a.1.2.2.1) (0:Int))<(gx a.2 (fa a.1.2.2.2.1) (0:Int)))))
 (cond (decide ((Ea (a.1.2.2.2.2.1-(14:Int)))=(3:Int)))
 (K (decide ((gx a.2 (fa a.1.2.2.1) (0:Int))<=(gx a.2 (fa a.1.2.2.2.1) (0:Int)))))
 (cond (decide ((Ea (a.1.2.2.2.2.1-(14:Int)))=(4:Int)))
 (K (decide ((gx a.2 (fa a.1.2.2.2.1) (0:Int))<(gx a.2 (fa a.1.2.2.1) (0:Int)))))
 (cond (decide ((Ea (a.1.2.2.2.2.1-(14:Int)))=(5:Int)))
 (K (decide ((gx a.2 (fa a.1.2.2.2.1) (0:Int))<=(gx a.2 (fa a.1.2.2.1) (0:Int)))))
 (none))))))))
def iw:=fun a=>gP a some
def Kab:Spec:=X8.sp iw
noncomputable def Xag:Env:=eE [] (yb []) qN
theorem Lab:OK (1) 66 (X8.sp iw):=
 fO (d:=0) (env:=Xag) (Da cn) (fn:=Tryz.f66) (mc:=@gP) (by intros;simp only[iw,gP,nn]) (Fa:=[2])
def Z8:FS (Y7) (Y8)where
 sk:=⟨(cL [.i,(.all 7),(.all 8),.i,(.ptr 0 0),(.ptr 1 0),(.ptr 5 0),(.ptr 6 0)]),[.Ya (.cons .i .nil),.Ya JL,.cells .bool,.cells (.pair .bool .bool),.cells ya,.Ya (.cons .i .nil),.Ya jb,.cells .i,.deep .i],0⟩
 a:=fun u=>(u.1.1,u.1.t3.1,u.2.1.1,(r3 u.t3 (u.t6.1.1,(r8 u.t7.1 (u.t8.1,u.t9.1)))))
 o:=fun Z a r K=>kv K (.bool) [.Ya (.cons .i .nil),.Ya JL,.cells .bool,.cells (.pair .bool .bool),.cells ya,.Ya (.cons .i .nil),.Ya jb,.cells .i,.deep .i] 0 true ((a.1,()),((),(),(),()),r.1,r.2.1,a.t5.1,(r.2.2,()),(r8 a.t7 ()),a.t15.1,a.t16,())
def iP{X:Type}(a:Y7)(K:Y8->Option X):Option X:=
 cond (decide ((0:Int)<=a.2.2.1))
 (ask (V.ja a.2.2.1 (da a.2.2.2.2.1)) (cond (decide (a.2.2.2.2.2.2.1=(0:Int)))
 (ask (V.ja a.1 (da a.2.2.2.1)) (ask (V.ja a.1 (da a.2.2.2.2.2.2.2.1)) (cond (decide ((gx a.2.2.2.2.2.2.2.1 (fa a.1) Ta).1=(15:Int)))
 ((iw ((gx a.2.2.2.2.2.2.2.1 (fa a.1) Ta),a.2.2.2.2.2.2.2.2.2.2.2.2.2.2.2.1)).bind fun r1=>
 cond (!r1)
 (K ((Qa a.2.2.2.1 (fa a.1) true),(Qa a.2.2.2.2.1 (fa a.2.2.1) (true,(gx a.2.2.2.2.1 (fa a.2.2.1) (false,false)).2)),1))
 (K ((Qa a.2.2.2.1 (fa a.1) true),(Qa a.2.2.2.2.1 (fa a.2.2.1) (true,(gx a.2.2.2.2.1 (fa a.2.2.1) (false,false)).2)),0)))
 (K ((Qa a.2.2.2.1 (fa a.1) true),(Qa a.2.2.2.2.1 (fa a.2.2.1) (true,(gx a.2.2.2.2.1 (fa a.2.2.1) (false,false)).2)),0)))))
 (cond (decide (a.2.2.2.2.2.2.1=(1:Int)))
 (ask (V.ja a.1 (da a.2.2.2.1)) (ask (V.ja a.1 (da a.2.2.2.2.2.2.2.1)) (cond (decide ((gx a.2.2.2.2.2.2.2.1 (fa a.1) Ta).1=(15:Int)))
 ((iw ((gx a.2.2.2.2.2.2.2.1 (fa a.1) Ta),a.2.2.2.2.2.2.2.2.2.2.2.2.2.2.2.1)).bind fun r2=>
 cond (!r2)
 (K ((Qa a.2.2.2.1 (fa a.1) true),(Qa a.2.2.2.2.1 (fa a.2.2.1) ((gx a.2.2.2.2.1 (fa a.2.2.1) (false,false)).1,true)),1))
 (K ((Qa a.2.2.2.1 (fa a.1) true),(Qa a.2.2.2.2.1 (fa a.2.2.1) ((gx a.2.2.2.2.1 (fa a.2.2.1) (false,false)).1,true)),0)))
 (K ((Qa a.2.2.2.1 (fa a.1) true),(Qa a.2.2.2.2.1 (fa a.2.2.1) ((gx a.2.2.2.2.1 (fa a.2.2.1) (false,false)).1,true)),0)))))
 (none))))
 (ask (V.ja a.1 (da a.2.2.2.1)) (ask (V.ja a.1 (da a.2.2.2.2.2.2.2.1)) (cond (decide ((gx a.2.2.2.2.2.2.2.1 (fa a.1) Ta).1=(15:Int)))
 ((iw ((gx a.2.2.2.2.2.2.2.1 (fa a.1) Ta),a.2.2.2.2.2.2.2.2.2.2.2.2.2.2.2.1)).bind fun r3=>
 cond (!r3)
 (K ((Qa a.2.2.2.1 (fa a.1) true),a.2.2.2.2.1,1))
 (K ((Qa a.2.2.2.1 (fa a.1) true),a.2.2.2.2.1,0)))
 (K ((Qa a.2.2.2.1 (fa a.1) true),a.2.2.2.2.1,0)))))
def fF:=fun a=>iP a some
def Nab:Spec:=Z8.sp fF
noncomputable def Yag:Env:=eE [] (yb [(66,Kab)]) qN
theorem Oab:OK (2) 65 (Z8.sp fF):=
 fO (d:=1) (env:=Yag) (Da (cc Lab cn)) (fn:=Tryz.f65) (mc:=@iP) (by intros;simp only[fF,iP,nn]) (Fa:=[13])
def S8:FS (Int×Int) (Int)where
 sk:=⟨Gg,[],0⟩
 a:=fun u=>(u.1.1,u.1.2.1)
 o:=fun Z a r K=>kv K .i [] 0 r ()
def yX{X:Type}(a:Int×Int)(K:Int->Option X):Option X:=
 K (Ea ((0:Int)-a.1))
def xX:=fun a=>yX a some
def zab:Spec:=S8.sp xX
noncomputable def Rag:Env:=eE [] (yb []) qN
theorem Aab:OK (1) 81 (S8.sp xX):=
 fO (d:=0) (env:=Rag) (Da cn) (fn:=Tryz.f81) (mc:=@yX) (by intros;simp only[xX,yX,nn])
def T8:FS (Int×Int) (Bool)where
 sk:=⟨Gg,[],0⟩
 a:=fun u=>(u.1.1,u.1.2.1)
 o:=fun Z a r K=>kv K (.bool) [] 0 r ()
def EX{X:Type}(a:Int×Int)(K:Bool->Option X):Option X:=
 ask (decide ((0:Int)<=(Tf a.2))) (ask (decide ((0:Int)<=(Tf ((Tf (4 * 2^min (fa (Tf a.2)) 64))-(1:Int))))) (cond (decide ((Ea ((0:Int)-(Ea (1 * 2^min (fa (Tf ((Tf (4 * 2^min (fa (Tf a.2)) 64))-(1:Int)))) 64))))<=a.1))
 (K (decide (a.1<(Ea (1 * 2^min (fa (Tf ((Tf (4 * 2^min (fa (Tf a.2)) 64))-(1:Int)))) 64)))))
 (K false)))
def Vl:=fun a=>EX a some
def vo:Spec:=T8.sp Vl
noncomputable def Sag:Env:=eE [] (yb []) qN
theorem wo:OK (1) 77 (T8.sp Vl):=
 fO (d:=0) (env:=Sag) (Da cn) (fn:=Tryz.f77) (mc:=@EX) (by intros;simp only[Vl,EX,nn])
def R8:FS (Int×Int) (Int)where
 sk:=⟨Gg,[],0⟩
 a:=fun u=>(u.1.1,u.1.2.1)
 o:=fun Z a r K=>kv K .i [] 0 r ()
def wX{X:Type}(a:Int×Int)(K:Int->Option X):Option X:=
 K (if(Ea ((0:Int)-a.1))>a.1 then(Ea ((0:Int)-a.1))else a.1)
def vX:=fun a=>wX a some
def xab:Spec:=R8.sp vX
noncomputable def Qag:Env:=eE [] (yb []) qN
theorem yab:OK (1) 82 (R8.sp vX):=
 fO (d:=0) (env:=Qag) (Da cn) (fn:=Tryz.f82) (mc:=@wX) (by intros;simp only[vX,wX,nn])
def Q8:FS (Int×Int) (Int)where
 sk:=⟨Gg,[],0⟩
 a:=fun u=>(u.1.1,u.1.2.1)
 o:=fun Z a r K=>kv K .i [] 0 r ()
def uX{X:Type}(a:Int×Int)(K:Int->Option X):Option X:=
 K (Ea (a.1+a.2))
def tX:=fun a=>uX a some
def vab:Spec:=Q8.sp tX
noncomputable def Pag:Env:=eE [] (yb []) qN
theorem wab:OK (1) 83 (Q8.sp tX):=
 fO (d:=0) (env:=Pag) (Da cn) (fn:=Tryz.f83) (mc:=@uX) (by intros;simp only[tX,uX,nn])
def P8:FS (Int×Int) (Int)where
 sk:=⟨Gg,[],0⟩
 a:=fun u=>(u.1.1,u.1.2.1)
 o:=fun Z a r K=>kv K .i [] 0 r ()
def sX{X:Type}(a:Int×Int)(K:Int->Option X):Option X:=
 K (Ea (a.1-a.2))
def rX:=fun a=>sX a some
def tab:Spec:=P8.sp rX
noncomputable def Oag:Env:=eE [] (yb []) qN
theorem uab:OK (1) 84 (P8.sp rX):=
 fO (d:=0) (env:=Oag) (Da cn) (fn:=Tryz.f84) (mc:=@sX) (by intros;simp only[rX,sX,nn])
def O8:FS (Int×Int) (Int)where
 sk:=⟨Gg,[],0⟩
 a:=fun u=>(u.1.1,u.1.2.1)
 o:=fun Z a r K=>kv K .i [] 0 r ()
def qX{X:Type}(a:Int×Int)(K:Int->Option X):Option X:=
 K (Ea (a.1 * a.2))
def pX:=fun a=>qX a some
def rab:Spec:=O8.sp pX
noncomputable def Nag:Env:=eE [] (yb []) qN
theorem sab:OK (1) 85 (O8.sp pX):=
 fO (d:=0) (env:=Nag) (Da cn) (fn:=Tryz.f85) (mc:=@qX) (by intros;simp only[pX,qX,nn])
end
end Go.U
end
