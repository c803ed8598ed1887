/- The functions of the program as Lean functions, and that the evaluator says so. -/
import Derived.Test.YtjenflkegbmkkaaGreatDoorC1
set_option linter.unusedVariables false
set_option linter.unusedSimpArgs false
set_option linter.unusedSectionVars false
open Int renaming toNat→fa
open List renaming length→da,replicate→Ba,set→Oa
section
set_option maxRecDepth 100000
namespace Go.U
open Go Go.Proofs
noncomputable section
variable {C:V.Callee}
def x_:FS (Unit) (Y2)where
 sk:=⟨.nil,[],0⟩
 a:=fun u=>()
 o:=fun Z a r K=>kv K (.agg zb) [] 0 (r.1,(0:Int),(3:Int),(0:Int),(r3 r.2 (r.t4,()))) ()
def I0{X:Type}(a:Unit)(K:Y2->Option X):Option X:=
 K (([(17,(0,(0,(0,(0,(0,(1,(-1)))))))),(12,(1,(0,(0,(0,(0,(2,(-1)))))))),(13,(0,(1,(0,(0,(0,(3,(-1)))))))),(1,(2,(0,(0,(3,(0,(4,(-1)))))))),(15,(0,(0,(2,(15,(0,(6,5))))))),(21,(0,(0,(0,(0,(1,((-1),(-1)))))))),(18,(0,(0,(0,(0,(0,(0,(-1))))))))]:List Wa),([((str [115]),(1,((-5),5)))]:List Bb),([((str [120]),(1,0))]:List Xb),[],([(0,0),(0,32)]:List za))
def G0:=fun a=>I0 a some
def sad:Spec:=x_.sp G0
noncomputable def fai:Env:=eE [] (mb []) qN
theorem tad:OK (1) 34 (x_.sp G0):=
 fO (d:=0) (env:=fai) (Da cn) (fn:=Tryz.f34) (mc:=@I0) (by intros;simp only[G0,I0,nn]) (Fa:=[0]) (sh:=(.agg [(.lit Md),.any,.any,.any,(.lit Nd),(.lit Qf),(.lit Nd),(.lit ya)])) (fz:=true)
def Q_:FS (Ga) (Y3)where
 sk:=⟨(.cons (.agg zb) .nil),[],0⟩
 a:=fun u=>(q8 u.1.1)
 o:=fun Z a r K=>kv K (.agg (cL [(.all 0),(.all 1),(.all 2)])) [.cells .bool,.cells (.pair .bool .bool),.cells ya] 0 ((),(),(),()) (r.1,r.2.1,r.2.2,())
def SQ{X:Type}(a:Ga)(K:Y3->Option X):Option X:=
 ask (decide (0<=(nt (da a.1)))&&decide ((nt (da a.1))<=(nt (da a.1)))&&decide (1 * (nt (da a.1))<=70368744177664)&&decide ((nt (da a.1))<9223372036854775808)) (ask (decide (0<=(nt (da a.1)))&&decide ((nt (da a.1))<=(nt (da a.1)))&&decide (2 * (nt (da a.1))<=70368744177664)&&decide ((nt (da a.1))<9223372036854775808)) (K ((Ba (fa (nt (da a.1))) (false:Bool)),(Ba (fa (nt (da a.1))) ((false,false):(Bool×Bool))),[])))
def Gw:=fun a=>SQ a some
def UN:Spec:=Q_.sp Gw
noncomputable def lai:Env:=eE [] (mb []) qN
theorem VN:OK (1) 14 (Q_.sp Gw):=
 fO (d:=0) (env:=lai) (Da cn) (fn:=Tryz.f14) (mc:=@SQ) (by intros;simp only[Gw,SQ,nn]) (Fa:=[1,2]) (sh:=(.agg [(.own .bool),(.own (.pair .bool .bool)),(.own ya)]))
def e_:FS (Y4) (Y5)where
 sk:=⟨(cL [(.agg zb),(.lit .i),.i]),[],0⟩
 a:=fun u=>((q8 u.1.1),u.1.2.1,u.1.2.2.1)
 o:=fun Z a r K=>kv K (.ptr 0 0) [.Za kr0,.cells .i,.deep .i] 0 () ((r7 a.1 (a.1.t7,a.2.1,r.1,(),(0:Int),(0:Int),(0:Int),(0:Int),(0:Int),(0:Int),(),(),(),())),r.2.1,r.2.2,())
def Rq:LD ((List Xb)×Int×Ga×Ga×(List Int)×Int×Int×Int×Int×Int×Int×Int) (Int×(List Int)) ((List Int))where
 sk:=⟨[(3,.loc 0 0),(7,.p 0 0),(24,.v (.lit Qf)),(25,.i),(26,.i)],[zb],[.Za kr1,.cells .i],0,0⟩
 p:=fun u=>(u.1.2.1,u.1.2.2.1,(q8 u.2.1.1),(q8 u.2.2.1),u.2.2.1.t8.1,u.2.2.1.t9.1,(r5 u.2.2.1.t11 u.2.2.1.t16.1))
 t:=fun u=>(u.1.t3.1,u.t3.1)
 n:=fun p t=>(((),p.1,p.2.1,t.1,()),((r7 p.2.2.1 (p.2.2.1.t7,())),()),(r7 p.t3.1 (p.t3.1.t7,p.t4.1,p.t5.1,(),(r5 p.t6 (p.t11,(),(),(),())))),t.2,())
 st:=fun Y p t ki ke=>cond (decide (t.1<p.2.1))
  (ask (V.ja t.1 (da p.1)) (ask (V.ja t.1 (da t.2)) (ki ((Ea (t.1+(1:Int))),(Oa t.2 (fa t.1) (gx p.1 (fa t.1) uc).2.2)))))
  (ke (t.2))
 o:=fun Z p e K=>so K (.exit 0) ⟨[(3,.loc 0 0),(7,.p 0 0)],[zb],[.Za kr1,.cells .i],0,0⟩ (((),()),((r7 p.2.2.1 (p.2.2.1.t7,())),()),(r7 p.t3.1 (p.t3.1.t7,p.t4.1,p.t5.1,(),(r5 p.t6 (p.t11,(),(),(),())))),e,())
 Kd:=⟨[3,7,24,25,26],[],[],[]⟩
 pe:=[(.exit 0,⟨[3,7],[],[],[]⟩)]
def vm:LD ((List Bb)×Int×Int×Int×Bb×(Ga×((List Int)×(Int×(Int×(Int×(Int×(Int×(Int×(Int×(List Int))))))))))×(List (List Int))) (Int×(List Int)) ((List Int))where
 sk:=⟨[(7,.p 0 0),(11,.loc 0 0),(12,.v (.all 3)),(41,.v (.lit Nd)),(42,.i),(43,.i),(51,.i),(52,.i)],[Paa],[.Za kr0,.cells .i,.deep .i,.cells .i],0,0⟩
 p:=fun u=>(r4 u.1.2.2 ((q4 u.2.1.1),((q8 u.2.2.1),(u.2.2.1.t8.1,(u.2.2.1.t9.1,(u.2.2.1.t11.1,(u.2.2.1.t12.1,(u.2.2.1.t13.1,(u.2.2.1.t14.1,(u.2.2.1.t15.1,(u.2.2.1.t16.1,u.t3.1))))))))),u.t4.1))
 t:=fun u=>(u.1.t6.1,u.t5.1)
 n:=fun p t=>(((),(),(r4 p (t.1,()))),((r3 p.t4.1 (p.t4.1.t3,())),()),(r7 p.t5.1.1 (p.t5.1.1.t7,p.t5.1.2.1,p.t5.1.2.2.1,(),(r6 p.t5.1.t3 ((),(),(),())))),p.t5.1.t9,p.t6,t.2,())
 st:=fun Y p t ki ke=>cond (decide (t.1<p.2.2.2.1))
  (ask (V.ja t.1 (da t.2)) (ki ((Ea (t.1+(1:Int))),(Oa t.2 (fa t.1) p.2.2.2.2.1.2.2.2))))
  (ke (t.2))
 o:=fun Z p e K=>so K (.exit 4) ⟨[(7,.p 0 0),(12,.v (.all 3)),(41,.v (.lit Nd)),(42,.i),(43,.i)],[],[.Za kr0,.cells .i,.deep .i,.cells .i],0,0⟩ (((),(),(r3 p ())),(),(r7 p.t5.1.1 (p.t5.1.1.t7,p.t5.1.2.1,p.t5.1.2.2.1,(),(r6 p.t5.1.t3 ((),(),(),())))),p.t5.1.t9,p.t6,e,())
 Kd:=⟨[7,11,12,41,42,43,51,52],[],[],[]⟩
 pe:=[(.exit 4,⟨[7,12,41,42,43],[],[],[]⟩)]
def Qq:LD ((List Bb)×Int×Ga×(List Int)×Int×Int×Int×Int×Int×Int×Int×(List Int)) (Y6) ((List (List Int)))where
 sk:=⟨[(7,.p 0 0),(41,.v (.lit Nd)),(42,.i),(43,.i)],[],[.Za kr0,.cells .i,.deep .i],0,0⟩
 p:=fun u=>(u.1.2.1,u.1.2.2.1,(q8 u.2.2.1),u.2.2.1.t8.1,u.2.2.1.t9.1,(r6 u.2.2.1.t11 u.t3.1))
 t:=fun u=>(u.1.t3.1,u.t4.1)
 n:=fun p t=>(((),p.1,p.2.1,t.1,()),(),(r7 p.2.2.1 (p.2.2.1.t7,p.t3.1,p.t4.1,(),(r6 p.t5 ((),(),(),())))),p.t11,t.2,())
 st:=fun Y p t ki ke=>cond (decide (t.1<p.2.1))
  (ask (V.ja t.1 (da p.1)) (ask (decide (0<=(gx p.1 (fa t.1) fb).2.2.1)&&decide ((gx p.1 (fa t.1) fb).2.2.1<=(gx p.1 (fa t.1) fb).2.2.1)&&decide (8 * (gx p.1 (fa t.1) fb).2.2.1<=70368744177664)&&decide ((gx p.1 (fa t.1) fb).2.2.1<9223372036854775808)) ((Ia (vm.m (p.1,p.2.1,t.1,(nt (da (Ba (fa (gx p.1 (fa t.1) fb).2.2.1) (0:Int)))),(gx p.1 (fa t.1) fb),p.2.2,t.2)) (0,(Ba (fa (gx p.1 (fa t.1) fb).2.2.1) (0:Int)))).bind fun e1=>
  ask (decide (((da t.2)+(da ([e1]:List (List Int)))) * 24<=70368744177664)&&decide (((da t.2)+(da ([e1]:List (List Int))))<9223372036854775808)) (ki ((Ea (t.1+(1:Int))),(t.2++([e1]:List (List Int))))))))
  (ke (t.2))
 o:=fun Z p e K=>so K (.exit 2) ⟨[(7,.p 0 0)],[],[.Za kr0,.cells .i,.deep .i],0,0⟩ (((),()),(),(r7 p.2.2.1 (p.2.2.1.t7,p.t3.1,p.t4.1,(),(r6 p.t5 ((),(),(),())))),p.t11,e,())
 Kd:=⟨[7,41,42,43],[],[],[(0,[.any,.any,.any,.any,.any,.any,.any,.any,.any,.any,.any,.any,.any,.any,.any,.any,.any,.any,(.deep (.int .i64)),.any])]⟩
 pe:=[(.exit 2,⟨[7],[],[],[]⟩)]
def kQ{X:Type}(a:Y4)(K:(Y5)->Option X):Option X:=
 ask (decide (0<=a.1.2.2.1)&&decide (a.1.2.2.1<=a.1.2.2.1)&&decide (8 * a.1.2.2.1<=70368744177664)&&decide (a.1.2.2.1<9223372036854775808)) ((Ia (Rq.m (a.1.2.2.2.2.2.1,(nt (da a.1.2.2.2.2.2.1)),a.1,a.1,a.2.1,(if 0>a.2.2 then 0 else a.2.2),0,0,0,0,0,0)) (0,(Ba (fa a.1.2.2.1) (0:Int)))).bind fun e1=>
 (Ia (Qq.m (a.1.2.2.2.2.2.2.1,(nt (da a.1.2.2.2.2.2.2.1)),a.1,a.2.1,(if 0>a.2.2 then 0 else a.2.2),0,0,0,0,0,0,e1)) (0,[])).bind fun e2=>
 K ((if 0>a.2.2 then 0 else a.2.2),e1,e2))
def FF:=fun a=>kQ a some
def Xac:Spec:=e_.sp FF
noncomputable def jQ:Env:=eE [] (mb []) (qL 3 Rq.q (qL 12 vm.q (qL 8 Qq.q qN)))
theorem vT:LS C jQ true [3,9,11] 75 (.loop (pc [1,1,0,1,0,0] Tryz.f55)):=fun hc=>
 lO hc Rq (by intros;simp only[Rq,LD.m,nn])
theorem nN:LS C jQ true [3,9,11] 75 (.loop (pc [1,1,1,0,1,0,0,1,1,0,0,1,1,0,1,0,0] Tryz.f55)):=fun hc=>
 lO hc vm (by intros;simp only[vm,LD.m,nn])
theorem tT:LS C jQ true [3,9,11] 75 (.loop (pc [1,1,1,0,1,0,0] Tryz.f55)):=fun hc=>
 lO hc Qq (by intros;simp only[Qq,LD.m,nn]) (hl:=(nc (by kernel_rfl) (Va (nN hc) Mb)))
theorem Yac:OK (1) 55 (e_.sp FF):=
 fO (d:=0) (env:=jQ) (Da cn) (fn:=Tryz.f55) (mc:=@kQ) (by intros;simp only[FF,kQ,nn]) (Fa:=[3,9,11]) (hl:=fun hc=>(nc (by kernel_rfl) (Va (vT hc) (Va (tT hc) Mb))))
def bZ:FS (Bool) (Unit)where
 sk:=⟨(cL [(.fn 81 .nil),.bool]),[],0⟩
 a:=fun u=>u.1.2.1
 o:=fun Z a r K=>kv K (.fn 76 (cL [(.ptr 0 0),(.ptr 1 0)])) [.Za (.cons (.fn 81 .nil) .nil),.Za (.cons .bool .nil)] 0 ((),(),()) (((),()),(a,()),())
def dZ{X:Type}(a:Bool)(K:Unit->Option X):Option X:=
 K ()
def cZ:=fun a=>dZ a some
def xac:Spec:=bZ.sp cZ
noncomputable def Mah:Env:=eE [] (mb []) qN
theorem yac:OK (1) 75 (bZ.sp cZ):=
 fO (d:=0) (env:=Mah) (Da cn) (fn:=Tryz.f75) (mc:=@dZ) (by intros;simp only[cZ,dZ,nn])
def JH:FS (Bool) (Unit)where
 sk:=⟨(cL [(.fn 82 .nil),.bool]),[],0⟩
 a:=fun u=>u.1.2.1
 o:=fun Z a r K=>kv K (.fn 76 (cL [(.ptr 0 0),(.ptr 1 0)])) [.Za (.cons (.fn 82 .nil) .nil),.Za (.cons .bool .nil)] 0 ((),(),()) (((),()),(a,()),())
def LH{X:Type}(a:Bool)(K:Unit->Option X):Option X:=
 K ()
def KH:=fun a=>LH a some
def ZY:Spec:=JH.sp KH
noncomputable def I7:Env:=eE [] (mb []) qN
theorem aZ:OK (1) 75 (JH.sp KH):=
 fO (d:=0) (env:=I7) (Da cn) (fn:=Tryz.f75) (mc:=@LH) (by intros;simp only[KH,LH,nn])
def FH:FS (Bool) (Unit)where
 sk:=⟨(cL [(.fn 83 .nil),.bool]),[],0⟩
 a:=fun u=>u.1.2.1
 o:=fun Z a r K=>kv K (.fn 76 (cL [(.ptr 0 0),(.ptr 1 0)])) [.Za (.cons (.fn 83 .nil) .nil),.Za (.cons .bool .nil)] 0 ((),(),()) (((),()),(a,()),())
def HH{X:Type}(a:Bool)(K:Unit->Option X):Option X:=
 K ()
def GH:=fun a=>HH a some
def XY:Spec:=FH.sp GH
noncomputable def H7:Env:=eE [] (mb []) qN
theorem YY:OK (1) 75 (FH.sp GH):=
 fO (d:=0) (env:=H7) (Da cn) (fn:=Tryz.f75) (mc:=@HH) (by intros;simp only[GH,HH,nn])
def CH:FS (Bool) (Unit)where
 sk:=⟨(cL [(.fn 84 .nil),.bool]),[],0⟩
 a:=fun u=>u.1.2.1
 o:=fun Z a r K=>kv K (.fn 76 (cL [(.ptr 0 0),(.ptr 1 0)])) [.Za (.cons (.fn 84 .nil) .nil),.Za (.cons .bool .nil)] 0 ((),(),()) (((),()),(a,()),())
def EH{X:Type}(a:Bool)(K:Unit->Option X):Option X:=
 K ()
def DH:=fun a=>EH a some
def VY:Spec:=CH.sp DH
noncomputable def G7:Env:=eE [] (mb []) qN
theorem WY:OK (1) 75 (CH.sp DH):=
 fO (d:=0) (env:=G7) (Da cn) (fn:=Tryz.f75) (mc:=@EH) (by intros;simp only[DH,EH,nn])
def yH:FS (Bool) (Unit)where
 sk:=⟨(cL [(.fn 85 .nil),.bool]),[],0⟩
 a:=fun u=>u.1.2.1
 o:=fun Z a r K=>kv K (.fn 76 (cL [(.ptr 0 0),(.ptr 1 0)])) [.Za (.cons (.fn 85 .nil) .nil),.Za (.cons .bool .nil)] 0 ((),(),()) (((),()),(a,()),())
def BH{X:Type}(a:Bool)(K:Unit->Option X):Option X:=
 K ()
def zH:=fun a=>BH a some
def TY:Spec:=yH.sp zH
noncomputable def F7:Env:=eE [] (mb []) qN
theorem UY:OK (1) 75 (yH.sp zH):=
 fO (d:=0) (env:=F7) (Da cn) (fn:=Tryz.f75) (mc:=@BH) (by intros;simp only[zH,BH,nn])
def vH:FS (Bool) (Unit)where
 sk:=⟨(cL [(.fn 87 .nil),.bool]),[],0⟩
 a:=fun u=>u.1.2.1
 o:=fun Z a r K=>kv K (.fn 76 (cL [(.ptr 0 0),(.ptr 1 0)])) [.Za (.cons (.fn 87 .nil) .nil),.Za (.cons .bool .nil)] 0 ((),(),()) (((),()),(a,()),())
def xH{X:Type}(a:Bool)(K:Unit->Option X):Option X:=
 K ()
def wH:=fun a=>xH a some
def RY:Spec:=vH.sp wH
noncomputable def E7:Env:=eE [] (mb []) qN
theorem SY:OK (1) 75 (vH.sp wH):=
 fO (d:=0) (env:=E7) (Da cn) (fn:=Tryz.f75) (mc:=@xH) (by intros;simp only[wH,xH,nn])
def MP:FS (Bool) (Unit)where
 sk:=⟨(cL [(.fn 88 .nil),.bool]),[],0⟩
 a:=fun u=>u.1.2.1
 o:=fun Z a r K=>kv K (.fn 76 (cL [(.ptr 0 0),(.ptr 1 0)])) [.Za (.cons (.fn 88 .nil) .nil),.Za (.cons .bool .nil)] 0 ((),(),()) (((),()),(a,()),())
def uH{X:Type}(a:Bool)(K:Unit->Option X):Option X:=
 K ()
def tH:=fun a=>uH a some
def PY:Spec:=MP.sp tH
noncomputable def D7:Env:=eE [] (mb []) qN
theorem QY:OK (1) 75 (MP.sp tH):=
 fO (d:=0) (env:=D7) (Da cn) (fn:=Tryz.f75) (mc:=@uH) (by intros;simp only[tH,uH,nn])
def d_:FS (Unit) (Unit)where
 sk:=⟨.nil,[],0⟩
 a:=fun u=>()
 o:=fun Z a r K=>kv K (.agg (cL [.af,(.fn 80 .nil),(.fn 76 (cL [(.ptr 0 0),(.ptr 1 0)])),(.fn 76 (cL [(.ptr 2 0),(.ptr 3 0)])),(.fn 76 (cL [(.ptr 4 0),(.ptr 5 0)])),(.fn 76 (cL [(.ptr 6 0),(.ptr 7 0)])),(.fn 76 (cL [(.ptr 8 0),(.ptr 9 0)])),(.fn 86 .nil),(.fn 86 .nil),(.fn 76 (cL [(.ptr 10 0),(.ptr 11 0)])),(.fn 76 (cL [(.ptr 12 0),(.ptr 13 0)])),(.fn 89 .nil),(.fn 90 .nil),(.fn 91 .nil),(.fn 92 .nil),(.fn 93 .nil),(.fn 79 .nil),(.fn 94 .nil),(.fn 95 .nil),(.fn 79 .nil),(.fn 96 .nil),(.fn 98 .nil)])) [.Za (.cons (.fn 81 .nil) .nil),.Za (.cons .bool .nil),.Za (.cons (.fn 82 .nil) .nil),.Za (.cons .bool .nil),.Za (.cons (.fn 83 .nil) .nil),.Za (.cons .bool .nil),.Za (.cons (.fn 84 .nil) .nil),.Za (.cons .bool .nil),.Za (.cons (.fn 85 .nil) .nil),.Za (.cons .bool .nil),.Za (.cons (.fn 87 .nil) .nil),.Za (.cons .bool .nil),.Za (.cons (.fn 88 .nil) .nil),.Za (.cons .bool .nil)] 0 ((),(),((),(),()),((),(),()),((),(),()),((),(),()),((),(),()),(),(),((),(),()),((),(),()),(),(),(),(),(),(),(),(),(),(),(),()) (((),()),(true,()),((),()),(true,()),((),()),(true,()),((),()),(true,()),((),()),(true,()),((),()),(false,()),((),()),(false,()),())
def FZ{X:Type}(a:Unit)(K:Unit->Option X):Option X:=
 K ()
def EZ:=fun a=>FZ a some
def Vac:Spec:=d_.sp EZ
noncomputable def Wah:Env:=eE [] (mb [(75,(alt bZ.tk xac (alt JH.tk ZY (alt FH.tk XY (alt CH.tk VY (alt yH.tk TY (alt vH.tk RY PY)))))))]) qN
theorem Wac:OK (2) 56 (d_.sp EZ):=
 fO (d:=1) (env:=Wah) (Da (cA yac (cA aZ (cA YY (cA WY (cA UY (cA SY (cc QY cn)))))))) (fn:=Tryz.f56) (mc:=@FZ) (by intros;simp only[EZ,FZ,nn]) (Fa:=[0])
def N':FS (Wa×(List Int)) (Bool)where
 sk:=⟨(cL [(.agg Kb),(.all 0)]),[.cells .i],0⟩
 a:=fun u=>((q8 u.1.1),u.2.1)
 o:=fun Z a r K=>kv K (.bool) [.cells .i] 0 r (a.2,())
def YP{X:Type}(a:Wa×(List Int))(K:Bool->Option X):Option X:=
 ask (V.ja a.1.2.2.1 (da a.2)) (ask (V.ja a.1.2.2.2.1 (da a.2)) (cond (decide ((Ea (a.1.2.2.2.2.1-(14:Int)))=(0:Int)))
 (K (decide ((gx a.2 (fa a.1.2.2.1) (0:Int))=(gx a.2 (fa a.1.2.2.2.1) (0:Int)))))
 (cond (decide ((Ea (a.1.2.2.2.2.1-(14:Int)))=(1:Int)))
 (K (!(decide ((gx a.2 (fa a.1.2.2.1) (0:Int))=(gx a.2 (fa a.1.2.2.2.1) (0:Int))))))
 (cond (decide ((Ea (a.1.2.2.2.2.1-(14:Int)))=(2:Int)))
 (K (decide ((gx a.2 (fa a.1.2.2.1) (0:Int))<(gx a.2 (fa a.1.2.2.2.1) (0:Int)))))
 (cond (decide ((Ea (a.1.2.2.2.2.1-(14:Int)))=(3:Int)))
 (K (decide ((gx a.2 (fa a.1.2.2.1) (0:Int))<=(gx a.2 (fa a.1.2.2.2.1) (0:Int)))))
 (cond (decide ((Ea (a.1.2.2.2.2.1-(14:Int)))=(4:Int)))
 (K (decide ((gx a.2 (fa a.1.2.2.2.1) (0:Int))<(gx a.2 (fa a.1.2.2.1) (0:Int)))))
 (cond (decide ((Ea (a.1.2.2.2.2.1-(14:Int)))=(5:Int)))
 (K (decide ((gx a.2 (fa a.1.2.2.2.1) (0:Int))<=(gx a.2 (fa a.1.2.2.1) (0:Int)))))
 (none))))))))
def Cw:=fun a=>YP a some
def Gac:Spec:=N'.sp Cw
noncomputable def Pah:Env:=eE [] (mb []) qN
theorem Hac:OK (1) 66 (N'.sp Cw):=
 fO (d:=0) (env:=Pah) (Da cn) (fn:=Tryz.f66) (mc:=@YP) (by intros;simp only[Cw,YP,nn]) (Fa:=[2])
def O':FS (Y7) (Y8)where
 sk:=⟨(cL [.i,(.all 7),(.all 8),.i,(.ptr 0 0),(.ptr 1 0),(.ptr 5 0),(.ptr 6 0)]),[.Za (.cons .i .nil),.Za zM,.cells .bool,.cells (.pair .bool .bool),.cells ya,.Za (.cons .i .nil),.Za zb,.cells .i,.deep .i],0⟩
 a:=fun u=>(u.1.1,u.1.t3.1,u.2.1.1,(r3 u.t3 (u.t6.1.1,(r8 u.t7.1 (u.t8.1,u.t9.1)))))
 o:=fun Z a r K=>kv K (.bool) [.Za (.cons .i .nil),.Za zM,.cells .bool,.cells (.pair .bool .bool),.cells ya,.Za (.cons .i .nil),.Za zb,.cells .i,.deep .i] 0 true ((a.1,()),((),(),(),()),r.1,r.2.1,a.t5.1,(r.2.2,()),(r8 a.t7 ()),a.t15.1,a.t16,())
def ZP{X:Type}(a:Y7)(K:Y8->Option X):Option X:=
 cond (decide ((0:Int)<=a.2.2.1))
 (ask (V.ja a.2.2.1 (da a.2.2.2.2.1)) (cond (decide (a.2.2.2.2.2.2.1=(0:Int)))
 (ask (V.ja a.1 (da a.2.2.2.1)) (ask (V.ja a.1 (da a.2.2.2.2.2.2.2.1)) (cond (decide ((gx a.2.2.2.2.2.2.2.1 (fa a.1) Ta).1=(15:Int)))
 ((Cw ((gx a.2.2.2.2.2.2.2.1 (fa a.1) Ta),a.2.2.2.2.2.2.2.2.2.2.2.2.2.2.2.1)).bind fun r1=>
 cond (!r1)
 (K ((Oa a.2.2.2.1 (fa a.1) true),(Oa a.2.2.2.2.1 (fa a.2.2.1) (true,(gx a.2.2.2.2.1 (fa a.2.2.1) (false,false)).2)),1))
 (K ((Oa a.2.2.2.1 (fa a.1) true),(Oa a.2.2.2.2.1 (fa a.2.2.1) (true,(gx a.2.2.2.2.1 (fa a.2.2.1) (false,false)).2)),0)))
 (K ((Oa a.2.2.2.1 (fa a.1) true),(Oa a.2.2.2.2.1 (fa a.2.2.1) (true,(gx a.2.2.2.2.1 (fa a.2.2.1) (false,false)).2)),0)))))
 (cond (decide (a.2.2.2.2.2.2.1=(1:Int)))
 (ask (V.ja a.1 (da a.2.2.2.1)) (ask (V.ja a.1 (da a.2.2.2.2.2.2.2.1)) (cond (decide ((gx a.2.2.2.2.2.2.2.1 (fa a.1) Ta).1=(15:Int)))
 ((Cw ((gx a.2.2.2.2.2.2.2.1 (fa a.1) Ta),a.2.2.2.2.2.2.2.2.2.2.2.2.2.2.2.1)).bind fun r2=>
 cond (!r2)
 (K ((Oa a.2.2.2.1 (fa a.1) true),(Oa a.2.2.2.2.1 (fa a.2.2.1) ((gx a.2.2.2.2.1 (fa a.2.2.1) (false,false)).1,true)),1))
 (K ((Oa a.2.2.2.1 (fa a.1) true),(Oa a.2.2.2.2.1 (fa a.2.2.1) ((gx a.2.2.2.2.1 (fa a.2.2.1) (false,false)).1,true)),0)))
 (K ((Oa a.2.2.2.1 (fa a.1) true),(Oa a.2.2.2.2.1 (fa a.2.2.1) ((gx a.2.2.2.2.1 (fa a.2.2.1) (false,false)).1,true)),0)))))
 (none))))
 (ask (V.ja a.1 (da a.2.2.2.1)) (ask (V.ja a.1 (da a.2.2.2.2.2.2.2.1)) (cond (decide ((gx a.2.2.2.2.2.2.2.1 (fa a.1) Ta).1=(15:Int)))
 ((Cw ((gx a.2.2.2.2.2.2.2.1 (fa a.1) Ta),a.2.2.2.2.2.2.2.2.2.2.2.2.2.2.2.1)).bind fun r3=>
 cond (!r3)
 (K ((Oa a.2.2.2.1 (fa a.1) true),a.2.2.2.2.1,1))
 (K ((Oa a.2.2.2.1 (fa a.1) true),a.2.2.2.2.1,0)))
 (K ((Oa a.2.2.2.1 (fa a.1) true),a.2.2.2.2.1,0)))))
def CF:=fun a=>ZP a some
def Jac:Spec:=O'.sp CF
noncomputable def Qah:Env:=eE [] (mb [(66,Gac)]) qN
theorem Kac:OK (2) 65 (O'.sp CF):=
 fO (d:=1) (env:=Qah) (Da (cc Hac cn)) (fn:=Tryz.f65) (mc:=@ZP) (by intros;simp only[CF,ZP,nn]) (Fa:=[13])
def Y9:FS (Int×Int) (Int)where
 sk:=⟨Eg,[],0⟩
 a:=fun u=>(u.1.1,u.1.2.1)
 o:=fun Z a r K=>kv K .i [] 0 r ()
def vY{X:Type}(a:Int×Int)(K:Int->Option X):Option X:=
 K (Ea ((0:Int)-a.1))
def uY:=fun a=>vY a some
def vac:Spec:=Y9.sp uY
noncomputable def Kah:Env:=eE [] (mb []) qN
theorem wac:OK (1) 81 (Y9.sp uY):=
 fO (d:=0) (env:=Kah) (Da cn) (fn:=Tryz.f81) (mc:=@vY) (by intros;simp only[uY,vY,nn])
def Z9:FS (Int×Int) (Bool)where
 sk:=⟨Eg,[],0⟩
 a:=fun u=>(u.1.1,u.1.2.1)
 o:=fun Z a r K=>kv K (.bool) [] 0 r ()
def BY{X:Type}(a:Int×Int)(K:Bool->Option X):Option X:=
 ask (decide ((0:Int)<=(Rf a.2))) (ask (decide ((0:Int)<=(Rf ((Rf (4 * 2^min (fa (Rf a.2)) 64))-(1:Int))))) (cond (decide ((Ea ((0:Int)-(Ea (1 * 2^min (fa (Rf ((Rf (4 * 2^min (fa (Rf a.2)) 64))-(1:Int)))) 64))))<=a.1))
 (K (decide (a.1<(Ea (1 * 2^min (fa (Rf ((Rf (4 * 2^min (fa (Rf a.2)) 64))-(1:Int)))) 64)))))
 (K false)))
def om:=fun a=>BY a some
def Uo:Spec:=Z9.sp om
noncomputable def Lah:Env:=eE [] (mb []) qN
theorem Vo:OK (1) 77 (Z9.sp om):=
 fO (d:=0) (env:=Lah) (Da cn) (fn:=Tryz.f77) (mc:=@BY) (by intros;simp only[om,BY,nn])
def X9:FS (Int×Int) (Int)where
 sk:=⟨Eg,[],0⟩
 a:=fun u=>(u.1.1,u.1.2.1)
 o:=fun Z a r K=>kv K .i [] 0 r ()
def tY{X:Type}(a:Int×Int)(K:Int->Option X):Option X:=
 K (if(Ea ((0:Int)-a.1))>a.1 then(Ea ((0:Int)-a.1))else a.1)
def sY:=fun a=>tY a some
def sac:Spec:=X9.sp sY
noncomputable def Jah:Env:=eE [] (mb []) qN
theorem uac:OK (1) 82 (X9.sp sY):=
 fO (d:=0) (env:=Jah) (Da cn) (fn:=Tryz.f82) (mc:=@tY) (by intros;simp only[sY,tY,nn])
def W9:FS (Int×Int) (Int)where
 sk:=⟨Eg,[],0⟩
 a:=fun u=>(u.1.1,u.1.2.1)
 o:=fun Z a r K=>kv K .i [] 0 r ()
def rY{X:Type}(a:Int×Int)(K:Int->Option X):Option X:=
 K (Ea (a.1+a.2))
def qY:=fun a=>rY a some
def qac:Spec:=W9.sp qY
noncomputable def Iah:Env:=eE [] (mb []) qN
theorem rac:OK (1) 83 (W9.sp qY):=
 fO (d:=0) (env:=Iah) (Da cn) (fn:=Tryz.f83) (mc:=@rY) (by intros;simp only[qY,rY,nn])
def V9:FS (Int×Int) (Int)where
 sk:=⟨Eg,[],0⟩
 a:=fun u=>(u.1.1,u.1.2.1)
 o:=fun Z a r K=>kv K .i [] 0 r ()
def pY{X:Type}(a:Int×Int)(K:Int->Option X):Option X:=
 K (Ea (a.1-a.2))
def nY:=fun a=>pY a some
def oac:Spec:=V9.sp nY
noncomputable def Hah:Env:=eE [] (mb []) qN
theorem pac:OK (1) 84 (V9.sp nY):=
 fO (d:=0) (env:=Hah) (Da cn) (fn:=Tryz.f84) (mc:=@pY) (by intros;simp only[nY,pY,nn])
def U9:FS (Int×Int) (Int)where
 sk:=⟨Eg,[],0⟩
 a:=fun u=>(u.1.1,u.1.2.1)
 o:=fun Z a r K=>kv K .i [] 0 r ()
def mY{X:Type}(a:Int×Int)(K:Int->Option X):Option X:=
 K (Ea (a.1 * a.2))
def lY:=fun a=>mY a some
def mac:Spec:=U9.sp lY
noncomputable def Gah:Env:=eE [] (mb []) qN
theorem nac:OK (1) 85 (U9.sp lY):=
 fO (d:=0) (env:=Gah) (Da cn) (fn:=Tryz.f85) (mc:=@mY) (by intros;simp only[lY,mY,nn])
end
end Go.U
end
