/- The functions of the program as Lean functions, and that the evaluator says so. -/
import Derived.Test.YtjenflkegbmkkaaGreatDoorC5
set_option linter.unusedVariables false
set_option linter.unusedSimpArgs false
set_option linter.unusedSectionVars false
open Int renaming toNat→fa
open List renaming length→da,set→Oa
section
set_option maxRecDepth 100000
namespace Go.U
open Go Go.Proofs
noncomputable section
variable {C:V.Callee}
def u_:FS (Y4) (Pa×Ir×Int)where
 sk:=⟨(cL [(.agg zb),(.lit .i),.i]),[],0⟩
 a:=fun u=>((q8 u.1.1),u.1.2.1,u.1.2.2.1)
 o:=fun Z a r K=>kv K (.Qc (cL [(.agg Cd),(.agg uW),.i])) [] 0 ((r.1.1,r.1.2.1,r.1.2.2,()),(r7 r.2.1 (r.2.1.t7,())),r.2.2,()) ()
def tQ{X:Type}(a:Y4)(K:(Pa×Ir×Int)->Option X):Option X:=
 (Gw a.1).bind fun r1=>
 (mC (a.1,a.2.1,a.2.2,(-1),r1.1,r1.2.1,r1.2.2,0,a.1)).bind fun r2=>
 cond (decide (r2.1=(1:Int)))
 (K ((r2.2.2.2.2.2.2.2.1,(r2.2.2.2.2.2.2.2.2.1,([(r2.2.1,r2.2.2.1)]:List za))),(r2.1,(r2.2.1,(r2.2.2.1,(r2.2.2.2.1,(r2.2.2.2.2.1,(r2.2.2.2.2.2.1,r2.2.2.2.2.2.2.2.2.2.2)))))),r2.2.2.2.2.2.2.1))
 (K ((r2.2.2.2.2.2.2.2.1,(r2.2.2.2.2.2.2.2.2.1,r1.2.2)),(r2.1,(r2.2.1,(r2.2.2.1,(r2.2.2.2.1,(r2.2.2.2.2.1,(r2.2.2.2.2.2.1,r2.2.2.2.2.2.2.2.2.2.2)))))),r2.2.2.2.2.2.2.1))
def jC:=fun a=>tQ a some
def B0:Spec:=u_.sp jC
noncomputable def dai:Env:=eE [] (mb [(14,UN),(25,Oad)]) qN
theorem C0:OK (5) 37 (u_.sp jC):=
 fO (d:=4) (env:=dai) (Da (cc VN (cc Pad cn))) (fn:=Tryz.f37) (mc:=@tQ) (by intros;simp only[jC,tQ,nn]) (Fa:=[6,7,12]) (sh:=(.Qc [(.agg [(.lit .bool),(.lit (.pair .bool .bool)),(.lit ya)]),(.agg [.any,.any,.any,.any,.any,(.lit (.int .i64)),(.lit (.slice (.int .i64))),(.lit (.slice (.int .i64)))]),.any])) (fz:=true)
def o_:FS (Pa) (Unit)where
 sk:=⟨(.cons (.agg Cd) .nil),[],0⟩
 a:=fun u=>(q3 u.1.1)
 o:=fun Z a r K=>kv K (.fn 69 (.cons (.ptr 0 0) .nil)) [.Za Cd] 0 ((),()) ((a.1,a.2.1,a.2.2,()),())
def UZ{X:Type}(a:Pa)(K:Unit->Option X):Option X:=
 K ()
def TZ:=fun a=>UZ a some
def RZ:Spec:=o_.sp TZ
noncomputable def aai:Env:=eE [] (mb []) qN
theorem SZ:OK (1) 43 (o_.sp TZ):=
 fO (d:=0) (env:=aai) (Da cn) (fn:=Tryz.f43) (mc:=@UZ) (by intros;simp only[TZ,UZ,nn])
def B2:FS (Y27) (Int)where
 sk:=⟨(cL [(.all 0),(.agg Eg)]),[.cells ya],0⟩
 a:=fun u=>((u.1.2.1.1,u.1.2.1.2.1),u.2.1)
 o:=fun Z a r K=>kv K .i [.cells ya] 0 r (a.2,())
def kp:LD (Int×(za×(List za))) (Int) ((Int) ⊕ (Unit))where
 sk:=⟨[(0,.v (.all 0)),(3,.loc 0 0),(7,.i),(8,.i)],[Eg],[.cells ya],0,1⟩
 p:=fun u=>(u.1.2.1,(u.2.1.1.1,u.2.1.1.2.1),u.2.2.1)
 t:=fun u=>u.1.2.2.1
 n:=fun p t=>(((),p.1,t,()),((p.2.1.1,p.2.1.2,()),()),p.2.2,())
 st:=fun Y p t ki ke=>cond (decide (t<p.1))
  (ask (V.ja t (da p.2.2)) (cond ((decide (p.2.1.1=(gx p.2.2 (fa t) vb).1))&&((decide (p.2.1.2=(gx p.2.2 (fa t) vb).2))&&true))
  (ke (.inl (t)))
  (ki ((Ea (t+(1:Int)))))))
  (ke (.inr (())))
 o:=fun Z p e K=>Sum.elim (fun e=>so K (.ret) ⟨[(4,.i)],[],[.cells ya],0,1⟩ ((e,()),(),p.2.2,())) (fun e=>so K (.exit 0) ⟨[],[],[.cells ya],0,1⟩ ((),(),p.2.2,())) e
 Kd:=⟨[0,3,7,8],[],[],[]⟩
 pe:=[(.ret,⟨[4],[],[],[]⟩),(.exit 0,⟨[],[],[],[]⟩)]
def nI{X:Type}(a:Y27)(K:Int->Option X):Option X:=
 (Ia (kp.m ((nt (da a.2)),a)) 0).bind fun e1=>
 Sum.elim (fun e2=>K e2)
 (fun e3=>K (-1)) e1
def By:=fun a=>nI a some
def U7:Spec:=B2.sp By
noncomputable def C2:Env:=eE [] (mb []) (qL 2 kp.q qN)
theorem WN:LS C C2 true [3] 19 (.loop (pc [1,0,1,0,0] Tryz.f115)):=fun hc=>
 lO hc kp (by intros;simp only[kp,LD.m,nn])
theorem V7:OK (1) 115 (B2.sp By):=
 fO (d:=0) (env:=C2) (Da cn) (fn:=Tryz.f115) (mc:=@nI) (by intros;simp only[By,nI,nn]) (Fa:=[3]) (hl:=fun hc=>(nc (by kernel_rfl) (Va (WN hc) Mb)))
def C':FS (Y27) (Bool)where
 sk:=⟨(cL [(.all 0),(.agg Eg)]),[.cells ya],0⟩
 a:=fun u=>((u.1.2.1.1,u.1.2.1.2.1),u.2.1)
 o:=fun Z a r K=>kv K (.bool) [.cells ya] 0 r (a.2,())
def NP{X:Type}(a:Y27)(K:Bool->Option X):Option X:=
 (By (a.1,a.2)).bind fun r1=>
 K (decide ((0:Int)<=r1))
def fC:=fun a=>NP a some
def zac:Spec:=C'.sp fC
noncomputable def Nah:Env:=eE [] (mb [(115,U7)]) qN
theorem Aac:OK (2) 72 (C'.sp fC):=
 fO (d:=1) (env:=Nah) (Da (cc V7 cn)) (fn:=Tryz.f72) (mc:=@NP) (by intros;simp only[fC,NP,nn]) (Fa:=[3])
def g_:FS (Y28) (Bool)where
 sk:=⟨(cL [(.agg (cL [(.all 0),(.all 1),(.all 2)])),(.agg FB)]),[.cells .bool,.cells (.pair .bool .bool),.cells ya],0⟩
 a:=fun u=>((q4 u.1.2.1),u.2.1,u.2.2.1,u.t3.1)
 o:=fun Z a r K=>kv K (.bool) [.cells .bool,.cells (.pair .bool .bool),.cells ya] 0 r (a.2.1,a.2.2.1,a.t3,())
def HF{X:Type}(a:Y28)(K:Bool->Option X):Option X:=
 cond (decide (a.1.1=(0:Int)))
 (cond (decide (a.1.2.1<(nt (da a.2.1))))
 (ask (V.ja a.1.2.1 (da a.2.1)) (K (gx a.2.1 (fa a.1.2.1) false)))
 (K false))
 (cond (decide (a.1.1=(3:Int)))
 ((fC (a.1.2.2,a.2.2.2)).bind fun r1=>
 K r1)
 (cond (decide (a.1.2.1<(nt (da a.2.2.1))))
 (ask (V.ja a.1.2.1 (da a.2.2.1)) (cond (decide ((Ea (a.1.1-(1:Int)))=(0:Int)))
 (K (gx a.2.2.1 (fa a.1.2.1) (false,false)).1)
 (cond (decide ((Ea (a.1.1-(1:Int)))=(1:Int)))
 (K (gx a.2.2.1 (fa a.1.2.1) (false,false)).2)
 (none))))
 (K false)))
def Zg:=fun a=>HF a some
def rN:Spec:=g_.sp Zg
noncomputable def Xah:Env:=eE [] (mb [(72,zac)]) qN
theorem sN:OK (3) 50 (g_.sp Zg):=
 fO (d:=2) (env:=Xah) (Da (cc Aac cn)) (fn:=Tryz.f50) (mc:=@HF) (by intros;simp only[Zg,HF,nn]) (Fa:=[2,3])
def tR:FS (Int×Int×Int×Int×(List Bool)×(List (Bool×Bool))×(List za)) (((List Bool)×(List (Bool×Bool))) ⊕ ((List za)))where
 sk:=⟨(cL [(.yl 0),(.agg FB)]),[.loop 230003 [(5,(.ptr 1 0))] .ready .normal,.Za zM,.cells .bool,.cells (.pair .bool .bool),.cells ya],0⟩
 a:=fun u=>(r4 u.1.2.1 (u.t3.1,u.t4.1,u.t5.1))
 o:=fun Z a r K=>Sum.elim (fun e=>kv K (.bool) [.loop 230003 [(5,(.ptr 1 0))] .ready .normal,.Za zM,.cells .bool,.cells (.pair .bool .bool),.cells ya] 0 true (((),()),((),(),(),()),e.1,e.2,a.t6,())) (fun e=>kv K (.bool) [.loop 230003 [(5,(.ptr 1 0))] .ready .normal,.Za (cL [(.all 2),(.all 3),(.all 5)]),.cells .bool,.cells (.pair .bool .bool),.dead,.cells ya] 0 true (((),()),((),(),(),()),a.t4.1,a.t5.1,(),e,())) r
def ij{X:Type}(a:Int×Int×Int×Int×(List Bool)×(List (Bool×Bool))×(List za))(K:((List Bool)×(List (Bool×Bool))) ⊕ ((List za))->Option X):Option X:=
 cond (decide (a.1=(0:Int)))
 (ask (V.ja a.2.1 (da a.2.2.2.2.1)) (K (.inl ((Oa a.2.2.2.2.1 (fa a.2.1) true),a.2.2.2.2.2.1))))
 (cond (decide (a.1=(3:Int)))
 ((Zg ((a.1,(a.2.1,(a.2.2.1,a.2.2.2.1))),a.2.2.2.2.1,a.2.2.2.2.2.1,a.2.2.2.2.2.2)).bind fun r1=>
 cond (!r1)
 (ask (decide (((da a.2.2.2.2.2.2)+(da ([(a.2.2.1,a.2.2.2.1)]:List za))) * 16<=70368744177664)&&decide (((da a.2.2.2.2.2.2)+(da ([(a.2.2.1,a.2.2.2.1)]:List za)))<9223372036854775808)) (K (.inr ((a.2.2.2.2.2.2++([(a.2.2.1,a.2.2.2.1)]:List za))))))
 (cond (decide (a.1<(3:Int)))
 (ask (V.ja a.2.1 (da a.2.2.2.2.2.1)) (cond (decide ((Ea (a.1-(1:Int)))=(0:Int)))
 (K (.inl (a.2.2.2.2.1,(Oa a.2.2.2.2.2.1 (fa a.2.1) (true,(gx a.2.2.2.2.2.1 (fa a.2.1) (false,false)).2)))))
 (cond (decide ((Ea (a.1-(1:Int)))=(1:Int)))
 (K (.inl (a.2.2.2.2.1,(Oa a.2.2.2.2.2.1 (fa a.2.1) ((gx a.2.2.2.2.2.1 (fa a.2.1) (false,false)).1,true)))))
 (none))))
 (K (.inl (a.2.2.2.2.1,a.2.2.2.2.2.1)))))
 (cond (decide (a.1<(3:Int)))
 (ask (V.ja a.2.1 (da a.2.2.2.2.2.1)) (cond (decide ((Ea (a.1-(1:Int)))=(0:Int)))
 (K (.inl (a.2.2.2.2.1,(Oa a.2.2.2.2.2.1 (fa a.2.1) (true,(gx a.2.2.2.2.2.1 (fa a.2.1) (false,false)).2)))))
 (cond (decide ((Ea (a.1-(1:Int)))=(1:Int)))
 (K (.inl (a.2.2.2.2.1,(Oa a.2.2.2.2.2.1 (fa a.2.1) ((gx a.2.2.2.2.2.1 (fa a.2.1) (false,false)).1,true)))))
 (none))))
 (K (.inl (a.2.2.2.2.1,a.2.2.2.2.2.1)))))
def Qd:=fun a=>ij a some
def ou:Spec:=tR.sp Qd
noncomputable def uR:Env:=eE [] (mb [(50,rN)]) qN
theorem UA:OKY (4) ou:=
 u5 (d:=3) (env:=uR) (Da (cc sN cn)) (id:=230003) (r:=rfT 230003) rfl (fun hc=>(nc (by kernel_rfl) Mb)) (fun hc=>(nc (by kernel_rfl) Mb)) (mc:=fun X a K=>ij a K) (fun _ _ _=>by kernel_rfl) (by intros;simp only[Qd,ij,nn])
def G':FS (E8) (Y3)where
 sk:=⟨(cL [(.yl 1),(.ptr 0 0)]),[.Za Cd,.loop 230003 [(5,(.ptr 2 0))] .ready .normal,.Za iS,.cells .bool,.cells (.pair .bool .bool),.cells ya],0⟩
 a:=fun u=>((q3 u.2.1),u.t4.1,u.t5.1,u.t6.1)
 o:=fun Z a r K=>kv K (.Qc .nil) [.Za Cd,.loop 230003 [(5,(.ptr 2 0))] .ready .normal,.Za PI,.cells .bool,.cells (.pair .bool .bool),.dead,.cells ya] 0 () ((a.1.1,a.1.2.1,a.1.2.2,()),((),()),((),(),(),()),r.1,r.2.1,(),r.2.2,())
def Oq:LD ((List Bool)×Int×Pa) (iR) (Y3)where
 sk:=⟨[(0,.v (.yl 1)),(1,.p 0 0),(12,.v (.lit .bool)),(13,.i),(14,.i)],[],[.Za Cd,.loop 230003 [(5,(.ptr 2 0))] .ready .normal,.Za PI,.cells .bool,.cells (.pair .bool .bool),.dead,.cells ya],0,6⟩
 p:=fun u=>(u.1.2.2.1,u.1.t3.1,u.2.2.1.1,(u.2.2.1.2.1,u.2.2.1.2.2.1))
 t:=fun u=>(u.1.t4.1,u.t5.1,u.t6.1,u.t8.1)
 n:=fun p t=>(((),(),p.1,p.2.1,t.1,()),(),(p.2.2.1,p.t3.1,p.t4,()),((),()),((),(),(),()),t.2.1,t.2.2.1,(),t.t3,())
 st:=fun Y p t ki ke=>cond (decide (t.1<p.2.1))
  (ask (V.ja t.1 (da p.1)) (cond (gx p.1 (fa t.1) false)
  ((Qd (0,t.1,0,0,t.2.1,t.2.2.1,t.2.2.2)).bind fun r1=>
  Sum.elim (fun r2=>ki ((Ea (t.1+(1:Int))),r2.1,r2.2,t.2.2.2))
  (fun r3=>ki ((Ea (t.1+(1:Int))),t.2.1,t.2.2.1,r3)) r1)
  (ki ((Ea (t.1+(1:Int))),t.2.1,t.2.2.1,t.2.2.2))))
  (ke ((t.2.1,t.2.2.1,t.2.2.2)))
 o:=fun Z p e K=>so K (.exit 0) ⟨[(0,.v (.yl 1)),(1,.p 0 0)],[],[.Za Cd,.loop 230003 [(5,(.ptr 2 0))] .ready .normal,.Za PI,.cells .bool,.cells (.pair .bool .bool),.dead,.cells ya],0,6⟩ (((),(),()),(),(p.2.2.1,p.t3.1,p.t4,()),((),()),((),(),(),()),e.1,e.2.1,(),e.2.2,())
 Kd:=⟨[0,1,12,13,14],[],[],[(2,[.any,.any,(.mv ya)])]⟩
 pe:=[(.exit 0,⟨[0,1],[],[],[]⟩)]
def Xj:LD (Int×(List (Bool×Bool))×Int×Int×(Bool×Bool)×Pa) (iR) (Y3)where
 sk:=⟨[(0,.v (.yl 1)),(1,.p 0 0),(5,.i),(29,.v (.lit (.pair .bool .bool))),(30,.i),(31,.i),(36,.v (.agg (cL [.bool,.bool]))),(37,.i)],[],[.Za Cd,.loop 230003 [(5,(.ptr 2 0))] .ready .normal,.Za PI,.cells .bool,.cells (.pair .bool .bool),.dead,.cells ya],0,6⟩
 p:=fun u=>(r4 u.1.2.2 ((u.1.t6.1.1,u.1.t6.1.2.1),u.2.2.1.1,(u.2.2.1.2.1,u.2.2.1.2.2.1)))
 t:=fun u=>(u.1.t7.1,u.t5.1,u.t6.1,u.t8.1)
 n:=fun p t=>(((),(),(r4 p ((p.t4.1.1,p.t4.1.2,()),t.1,()))),(),(p.t5.1,p.t6.1,p.t7,()),((),()),((),(),(),()),t.2.1,t.2.2.1,(),t.t3,())
 st:=fun Y p t ki ke=>cond (decide (t.1<(2:Int)))
  (cond (decide (t.1=(0:Int)))
  (cond p.2.2.2.2.1.1
  ((Qd ((Ea ((1:Int)+t.1)),p.1,0,0,t.2.1,t.2.2.1,t.2.2.2)).bind fun r1=>
  Sum.elim (fun r2=>ki ((Ea (t.1+(1:Int))),r2.1,r2.2,t.2.2.2))
  (fun r3=>ki ((Ea (t.1+(1:Int))),t.2.1,t.2.2.1,r3)) r1)
  (ki ((Ea (t.1+(1:Int))),t.2.1,t.2.2.1,t.2.2.2)))
  (cond (decide (t.1=(1:Int)))
  (cond p.2.2.2.2.1.2
  ((Qd ((Ea ((1:Int)+t.1)),p.1,0,0,t.2.1,t.2.2.1,t.2.2.2)).bind fun r4=>
  Sum.elim (fun r5=>ki ((Ea (t.1+(1:Int))),r5.1,r5.2,t.2.2.2))
  (fun r6=>ki ((Ea (t.1+(1:Int))),t.2.1,t.2.2.1,r6)) r4)
  (ki ((Ea (t.1+(1:Int))),t.2.1,t.2.2.1,t.2.2.2)))
  (none)))
  (ke ((t.2.1,t.2.2.1,t.2.2.2)))
 o:=fun Z p e K=>so K (.exit 4) ⟨[(0,.v (.yl 1)),(1,.p 0 0),(29,.v (.lit (.pair .bool .bool))),(30,.i),(31,.i)],[],[.Za Cd,.loop 230003 [(5,(.ptr 2 0))] .ready .normal,.Za PI,.cells .bool,.cells (.pair .bool .bool),.dead,.cells ya],0,6⟩ (((),(),(r3 p.2 ())),(),(p.t5.1,p.t6.1,p.t7,()),((),()),((),(),(),()),e.1,e.2.1,(),e.2.2,())
 Kd:=⟨[0,1,5,29,30,31,36,37],[],[],[]⟩
 pe:=[(.exit 4,⟨[0,1,29,30,31],[],[],[]⟩)]
def Nq:LD ((List (Bool×Bool))×Int×Pa) (iR) (Y3)where
 sk:=⟨[(0,.v (.yl 1)),(1,.p 0 0),(29,.v (.lit (.pair .bool .bool))),(30,.i),(31,.i)],[],[.Za Cd,.loop 230003 [(5,(.ptr 2 0))] .ready .normal,.Za PI,.cells .bool,.cells (.pair .bool .bool),.dead,.cells ya],0,6⟩
 p:=fun u=>(u.1.2.2.1,u.1.t3.1,u.2.2.1.1,(u.2.2.1.2.1,u.2.2.1.2.2.1))
 t:=fun u=>(u.1.t4.1,u.t5.1,u.t6.1,u.t8.1)
 n:=fun p t=>(((),(),p.1,p.2.1,t.1,()),(),(p.2.2.1,p.t3.1,p.t4,()),((),()),((),(),(),()),t.2.1,t.2.2.1,(),t.t3,())
 st:=fun Y p t ki ke=>cond (decide (t.1<p.2.1))
  (ask (V.ja t.1 (da p.1)) ((Ia (Xj.m (t.1,p.1,p.2.1,t.1,(gx p.1 (fa t.1) (false,false)),p.2.2)) (0,t.2.1,t.2.2.1,t.2.2.2)).bind fun e1=>
  ki ((Ea (t.1+(1:Int))),e1.1,e1.2.1,e1.2.2)))
  (ke ((t.2.1,t.2.2.1,t.2.2.2)))
 o:=fun Z p e K=>so K (.exit 2) ⟨[(0,.v (.yl 1)),(1,.p 0 0)],[],[.Za Cd,.loop 230003 [(5,(.ptr 2 0))] .ready .normal,.Za PI,.cells .bool,.cells (.pair .bool .bool),.dead,.cells ya],0,6⟩ (((),(),()),(),(p.2.2.1,p.t3.1,p.t4,()),((),()),((),(),(),()),e.1,e.2.1,(),e.2.2,())
 Kd:=⟨[0,1,29,30,31],[],[],[]⟩
 pe:=[(.exit 2,⟨[0,1],[],[],[]⟩)]
def qm:LD ((List za)×Int×Pa) (iR) (Y3)where
 sk:=⟨[(0,.v (.yl 1)),(54,.v (.lit ya)),(55,.i),(56,.i)],[],[.Za Cd,.loop 230003 [(5,(.ptr 2 0))] .ready .normal,.Za PI,.cells .bool,.cells (.pair .bool .bool),.dead,.cells ya],0,6⟩
 p:=fun u=>(u.1.2.1,u.1.2.2.1,u.2.2.1.1,(u.2.2.1.2.1,u.2.2.1.2.2.1))
 t:=fun u=>(u.1.t3.1,u.t5.1,u.t6.1,u.t8.1)
 n:=fun p t=>(((),p.1,p.2.1,t.1,()),(),(p.2.2.1,p.t3.1,p.t4,()),((),()),((),(),(),()),t.2.1,t.2.2.1,(),t.t3,())
 st:=fun Y p t ki ke=>cond (decide (t.1<p.2.1))
  (ask (V.ja t.1 (da p.1)) ((Qd (3,0,(gx p.1 (fa t.1) vb).1,(gx p.1 (fa t.1) vb).2,t.2.1,t.2.2.1,t.2.2.2)).bind fun r1=>
  Sum.elim (fun r2=>ki ((Ea (t.1+(1:Int))),r2.1,r2.2,t.2.2.2))
  (fun r3=>ki ((Ea (t.1+(1:Int))),t.2.1,t.2.2.1,r3)) r1))
  (ke ((t.2.1,t.2.2.1,t.2.2.2)))
 o:=fun Z p e K=>so K (.exit 6) ⟨[],[],[.Za Cd,.loop 230003 [(5,(.ptr 2 0))] .ready .normal,.Za PI,.cells .bool,.cells (.pair .bool .bool),.dead,.cells ya],0,6⟩ ((),(),(p.2.2.1,p.t3.1,p.t4,()),((),()),((),(),(),()),e.1,e.2.1,(),e.2.2,())
 Kd:=⟨[0,54,55,56],[],[],[]⟩
 pe:=[(.exit 6,⟨[],[],[],[]⟩)]
def VP{X:Type}(a:E8)(K:Y3->Option X):Option X:=
 (Ia (Oq.m (a.1.1,(nt (da a.1.1)),a.1)) (0,a.2.1,a.2.2.1,a.2.2.2)).bind fun e1=>
 (Ia (Nq.m (a.1.2.1,(nt (da a.1.2.1)),a.1)) (0,e1.1,e1.2.1,e1.2.2)).bind fun e2=>
 (Ia (qm.m (a.1.2.2,(nt (da a.1.2.2)),a.1)) (0,e2.1,e2.2.1,e2.2.2)).bind fun e3=>
 K (e3.1,e3.2.1,e3.2.2)
def BF:=fun a=>VP a some
def Cac:Spec:=G'.sp BF
noncomputable def FK:Env:=eE [] (Et [] [(230003,ou)]) (qL 1 Oq.q (qL 9 Xj.q (qL 6 Nq.q (qL 15 qm.q qN))))
theorem oT:LS C FK true [6,10] 66 (.loop (pc [0,1,0,0] Tryz.f69)):=fun hc=>
 lO hc Oq (by intros;simp only[Oq,LD.m,nn])
theorem mT:LS C FK true [6,10] 66 (.loop (pc [1,0,1,0,0,1,1,0,0,1,1,0,0] Tryz.f69)):=fun hc=>
 lO hc Xj (by intros;simp only[Xj,LD.m,nn])
theorem nT:LS C FK true [6,10] 66 (.loop (pc [1,0,1,0,0] Tryz.f69)):=fun hc=>
 lO hc Nq (by intros;simp only[Nq,LD.m,nn]) (hl:=(nc (by kernel_rfl) (Va (mT hc) Mb)))
theorem iN:LS C FK true [6,10] 66 (.loop (pc [1,1,1,0,0] Tryz.f69)):=fun hc=>
 lO hc qm (by intros;simp only[qm,LD.m,nn])
theorem Dac:OK (5) 69 (G'.sp BF):=
 fO (d:=4) (env:=FK) (Mj cn (ccy UA cyn)) (fn:=Tryz.f69) (mc:=@VP) (by intros;simp only[BF,VP,nn]) (Fa:=[6,10]) (hl:=fun hc=>(nc (by kernel_rfl) (Va (oT hc) (Va (nT hc) (Va (iN hc) Mb)))))
def P0:FS (E8) (Y3)where
 sk:=⟨(cL [(.agg (cL [(.all 0),(.all 1),(.all 2)])),(.agg Cd)]),[.cells .bool,.cells (.pair .bool .bool),.cells ya],0⟩
 a:=fun u=>((q3 u.1.2.1),u.2.1,u.2.2.1,u.t3.1)
 o:=fun Z a r K=>kv K (.agg (cL [(.all 3),(.all 4),(.all 5)])) [.cells .bool,.cells (.pair .bool .bool),.cells ya,.cells .bool,.cells (.pair .bool .bool),.cells ya] 0 ((),(),(),()) (a.2.1,a.2.2.1,a.t3,r.1,r.2.1,r.2.2,())
def pC:PD (Pa×(List Bool)×(List (Bool×Bool))×(List za)×Pa) (Y3)where
 sk:=⟨[(4,.p 3 0),(5,.p 4 0),(18,.v (.fn 69 (.cons (.ptr 8 0) .nil)))],[],[.cells .bool,.cells (.pair .bool .bool),.cells ya,.Za (cL [.Ya,.Ya,.Ya]),.Za kr9,.cells .bool,.cells (.pair .bool .bool),.cells ya,.Za Cd],0,3⟩
 p:=fun u=>((q3 u.2.2),(r3 u.t7 (q3 u.t10.1)))
 st:=fun Y p ke=>(BF (p.2.2.2.2,p.2.1,p.2.2.1,p.2.2.2.1)).bind fun r1=>
  ke ((r1.1,r1.2.1,r1.2.2))
 o:=fun Z p e K=>so K (.normal) ⟨[(4,.p 3 0),(5,.p 4 0)],[],[.cells .bool,.cells (.pair .bool .bool),.cells ya,.Za (cL [.Ya,.Ya,.Ya]),.Za kr9,.cells .bool,.cells (.pair .bool .bool),.cells ya],0,3⟩ (((),(),()),(),p.1.1,p.1.2.1,p.1.2.2,((),(),(),()),((),(),(),()),e.1,e.2.1,e.2.2,())
 Kd:=⟨[4,5,18],[],[],[]⟩
 pe:=[(.normal,⟨[4,5],[],[],[]⟩)]
def JQ{X:Type}(a:E8)(K:Y3->Option X):Option X:=
 (pQ a.2.1).bind fun r1=>
 (oQ a.2.2.1).bind fun r2=>
 (nQ a.2.2.2).bind fun r3=>
 (pC.m (a.2,r1,r2,r3,a.1)).bind fun e4=>
 (GF e4.2.2).bind fun r5=>
 K (e4.1,e4.2.1,r5)
def Fw:=fun a=>JQ a some
def O0:Spec:=P0.sp Fw
noncomputable def S0:Env:=eE [] (mb [(47,wN),(48,vN),(49,uN),(43,RZ),(69,Cac),(51,oN)]) (qL 3 pC.q qN)
theorem ZT:LS C S0 true [] 63 (rfC (pc [1,1,0,1,0] Tryz.f23)):=fun hc=>
 rO (env:=S0) hc (id:=230003) (ks:=[5]) pC (by intros;simp only[pC,PD.m,nn])
theorem Q0:OK (6) 23 (P0.sp Fw):=
 fO (d:=5) (env:=S0) (Da (cc LZ (cc KZ (cc JZ (cc SZ (cc Dac (cc IZ cn))))))) (fn:=Tryz.f23) (mc:=@JQ) (by intros;simp only[Fw,JQ,nn]) (sh:=(.agg [(.own .bool),(.own (.pair .bool .bool)),(.own ya)])) (hl:=fun hc=>(nc (by kernel_rfl) (Va (ZT hc) Mb)))
def S_:FS (Y31) (Y3)where
 sk:=⟨(cL [(.agg zb),(.lit (.slice .i)),.i]),[],0⟩
 a:=fun u=>((q8 u.1.1),u.1.2.1,u.1.2.2.1)
 o:=fun Z a r K=>kv K (.agg (cL [(.all 0),(.all 1),(.all 2)])) [.cells .bool,.cells (.pair .bool .bool),.cells ya] 0 ((),(),(),()) (r.1,r.2.1,r.2.2,())
def lI:LD (Int×(List (List Int))×Int×Ga) (iR) (Y3)where
 sk:=⟨[(2,.i),(3,.loc 0 0),(6,.loc 1 0),(7,.loc 2 0),(15,.v (.lit (.slice .i))),(16,.i),(17,.i)],[zb,(cL [.Ya,.Ya,.Ya]),(cL [(.all 0),(.all 1),(.all 2)])],[.cells .bool,.cells (.pair .bool .bool),.cells ya],0,0⟩
 p:=fun u=>(r3 u.1 (q8 u.2.1.1))
 t:=fun u=>(u.1.t3.1,u.2.2.1,u.t3.1,u.t4.1)
 n:=fun p t=>((r3 p (t.1,())),((r7 p.t3 (p.t10,())),((),(),(),()),((),(),(),()),()),t.2.1,t.2.2.1,t.t3,())
 st:=fun Y p t ki ke=>cond (decide (t.1<p.2.2.1))
  (ask (V.ja t.1 (da p.2.1)) ((jC (p.2.2.2,(gx p.2.1 (fa t.1) []),p.1)).bind fun r1=>
  (Fw (r1.1,t.2.1,t.2.2.1,t.2.2.2)).bind fun r2=>
  ki ((Ea (t.1+(1:Int))),r2.1,r2.2.1,r2.2.2)))
  (ke ((t.2.1,t.2.2.1,t.2.2.2)))
 o:=fun Z p e K=>so K (.exit 0) ⟨[(6,.loc 0 0),(7,.loc 1 0)],[(cL [.Ya,.Ya,.Ya]),(cL [(.all 0),(.all 1),(.all 2)])],[.cells .bool,.cells (.pair .bool .bool),.cells ya],0,0⟩ ((),(((),(),(),()),((),(),(),()),()),e.1,e.2.1,e.2.2,())
 Kd:=⟨[2,3,6,7,15,16,17],[],[],[]⟩
 pe:=[(.exit 0,⟨[6,7],[],[],[]⟩)]
def R1{X:Type}(a:Y31)(K:Y3->Option X):Option X:=
 (Gw a.1).bind fun r1=>
 (Ia (lI.m (a.2.2,a.2.1,(nt (da a.2.1)),a.1)) (0,r1.1,r1.2.1,r1.2.2)).bind fun e2=>
 K (e2.1,e2.2.1,e2.2.2)
def zz:=fun a=>R1 a some
def hae:Spec:=S_.sp zz
noncomputable def T_:Env:=eE [] (mb [(14,UN),(37,B0),(23,O0)]) (qL 3 lI.q qN)
theorem xU:LS C T_ true [3,6,7,10,11] 34 (.loop (pc [1,1,0,1,0,0] Tryz.f12)):=fun hc=>
 lO hc lI (by intros;simp only[lI,LD.m,nn])
theorem iae:OK (7) 12 (S_.sp zz):=
 fO (d:=6) (env:=T_) (Da (cc VN (cc C0 (cc Q0 cn)))) (fn:=Tryz.f12) (mc:=@R1) (by intros;simp only[zz,R1,nn]) (Fa:=[3,6,7,10,11]) (sh:=(.agg [(.own .bool),(.own (.pair .bool .bool)),(.own ya)])) (hl:=fun hc=>(nc (by kernel_rfl) (Va (xU hc) Mb)))
def sQ:FS (Y3) (Unit)where
 sk:=⟨(.cons (.agg (cL [(.all 0),(.all 1),(.all 2)])) .nil),[.cells .bool,.cells (.pair .bool .bool),.cells ya],0⟩
 a:=fun u=>(u.2.1,u.2.2.1,u.t3.1)
 o:=fun Z a r K=>kv K (.fn 69 (.cons (.ptr 3 0) .nil)) [.cells .bool,.cells (.pair .bool .bool),.cells ya,.Za V5] 0 ((),()) (a.1,a.2.1,a.2.2,((),(),(),()),())
def bI{X:Type}(a:Y3)(K:Unit->Option X):Option X:=
 K ()
def aI:=fun a=>bI a some
def KK:Spec:=sQ.sp aI
noncomputable def O7:Env:=eE [] (mb []) qN
theorem LK:OK (1) 43 (sQ.sp aI):=
 fO (d:=0) (env:=O7) (Da cn) (fn:=Tryz.f43) (mc:=@bI) (by intros;simp only[aI,bI,nn])
def vR:FS (Int×Int×Int×Int×Int) (Int)where
 sk:=⟨(cL [(.yl 0),(.agg FB)]),[.loop 180000 [(3,(.ptr 1 0))] .ready .normal,.Za (.cons .i .nil)],0⟩
 a:=fun u=>(r4 u.1.2.1 u.2.2.1.1)
 o:=fun Z a r K=>kv K (.bool) [.loop 180000 [(3,(.ptr 1 0))] .ready .normal,.Za (.cons .i .nil)] 0 true (((),()),(r,()),())
def xx{X:Type}(a:Int×Int×Int×Int×Int)(K:Int->Option X):Option X:=
 K (Ea (a.2.2.2.2+(1:Int)))
def Mk:=fun a=>xx a some
def VA:Spec:=vR.sp Mk
noncomputable def wR:Env:=eE [] (mb []) qN
theorem QL:OKY (1) VA:=
 u5 (d:=0) (env:=wR) (Da cn) (id:=180000) (r:=rfT 180000) rfl (fun hc=>(nc (by kernel_rfl) Mb)) (fun hc=>(nc (by kernel_rfl) Mb)) (mc:=fun X a K=>xx a K) (fun _ _ _=>by kernel_rfl) (by intros;simp only[Mk,xx,nn])
def UP:FS (Y32) (Int)where
 sk:=⟨(cL [(.yl 4),(.ptr 0 0)]),[.Za Vj,.cells .bool,.cells (.pair .bool .bool),.cells ya,.loop 180000 [(3,(.ptr 5 0))] .ready .normal,.Za (.cons .i .nil)],0⟩
 a:=fun u=>(r3 u.2.2 u.t6.1.1)
 o:=fun Z a r K=>kv K (.Qc .nil) [.Za Vj,.cells .bool,.cells (.pair .bool .bool),.cells ya,.loop 180000 [(3,(.ptr 5 0))] .ready .normal,.Za (.cons .i .nil)] 0 () (((),(),(),()),(r3 a (((),()),(r,()),())))
def Aw:LD (iR) (Int×Int) (Int)where
 sk:=⟨[(0,.v (.yl 4)),(1,.p 0 0),(12,.v (.all 1)),(13,.i),(14,.i)],[],[.Za Vj,.cells .bool,.cells (.pair .bool .bool),.cells ya,.loop 180000 [(3,(.ptr 5 0))] .ready .normal,.Za (.cons .i .nil)],0,6⟩
 p:=fun u=>(u.1.t3.1,u.t3.1,u.t4.1,u.t5.1)
 t:=fun u=>(u.1.t4.1,u.t7.1.1)
 n:=fun p t=>(((),(),(),p.1,t.1,()),(),((),(),(),()),p.2.1,p.2.2.1,p.t3,((),()),(t.2,()),())
 st:=fun Y p t ki ke=>cond (decide (t.1<p.1))
  (ask (V.ja t.1 (da p.2.1)) (cond (gx p.2.1 (fa t.1) false)
  ((Mk (0,t.1,0,0,t.2)).bind fun r1=>
  ki ((Ea (t.1+(1:Int))),r1))
  (ki ((Ea (t.1+(1:Int))),t.2))))
  (ke (t.2))
 o:=fun Z p e K=>so K (.exit 0) ⟨[(0,.v (.yl 4)),(1,.p 0 0)],[],[.Za Vj,.cells .bool,.cells (.pair .bool .bool),.cells ya,.loop 180000 [(3,(.ptr 5 0))] .ready .normal,.Za (.cons .i .nil)],0,6⟩ (((),(),()),(),((),(),(),()),p.2.1,p.2.2.1,p.t3,((),()),(e,()),())
 Kd:=⟨[0,1,12,13,14],[],[],[]⟩
 pe:=[(.exit 0,⟨[0,1],[],[],[]⟩)]
def yw:LD (Y33) (Int×Int) (Int)where
 sk:=⟨[(0,.v (.yl 4)),(1,.p 0 0),(5,.i),(29,.v (.all 2)),(30,.i),(31,.i),(36,.v (.agg (cL [.bool,.bool]))),(37,.i)],[],[.Za Vj,.cells .bool,.cells (.pair .bool .bool),.cells ya,.loop 180000 [(3,(.ptr 5 0))] .ready .normal,.Za (.cons .i .nil)],0,6⟩
 p:=fun u=>(u.1.2.2.1,u.1.t4.1,u.1.t5.1,(u.1.t6.1.1,u.1.t6.1.2.1),u.t3.1,(u.t4.1,u.t5.1))
 t:=fun u=>(u.1.t7.1,u.t7.1.1)
 n:=fun p t=>(((),(),p.1,(),p.2.1,p.2.2.1,(p.t3.1.1,p.t3.1.2,()),t.1,()),(),((),(),(),()),p.t4.1,p.t5.1,p.t6,((),()),(t.2,()),())
 st:=fun Y p t ki ke=>cond (decide (t.1<(2:Int)))
  (cond (decide (t.1=(0:Int)))
  (cond p.2.2.2.1.1
  ((Mk ((Ea ((1:Int)+t.1)),p.1,0,0,t.2)).bind fun r1=>
  ki ((Ea (t.1+(1:Int))),r1))
  (ki ((Ea (t.1+(1:Int))),t.2)))
  (cond (decide (t.1=(1:Int)))
  (cond p.2.2.2.1.2
  ((Mk ((Ea ((1:Int)+t.1)),p.1,0,0,t.2)).bind fun r2=>
  ki ((Ea (t.1+(1:Int))),r2))
  (ki ((Ea (t.1+(1:Int))),t.2)))
  (none)))
  (ke (t.2))
 o:=fun Z p e K=>so K (.exit 4) ⟨[(0,.v (.yl 4)),(1,.p 0 0),(29,.v (.all 2)),(30,.i),(31,.i)],[],[.Za Vj,.cells .bool,.cells (.pair .bool .bool),.cells ya,.loop 180000 [(3,(.ptr 5 0))] .ready .normal,.Za (.cons .i .nil)],0,6⟩ (((),(),(),p.2.1,p.2.2.1,()),(),((),(),(),()),p.t4.1,p.t5.1,p.t6,((),()),(e,()),())
 Kd:=⟨[0,1,5,29,30,31,36,37],[],[],[]⟩
 pe:=[(.exit 4,⟨[0,1,29,30,31],[],[],[]⟩)]
def zw:LD (iR) (Int×Int) (Int)where
 sk:=⟨[(0,.v (.yl 4)),(1,.p 0 0),(29,.v (.all 2)),(30,.i),(31,.i)],[],[.Za Vj,.cells .bool,.cells (.pair .bool .bool),.cells ya,.loop 180000 [(3,(.ptr 5 0))] .ready .normal,.Za (.cons .i .nil)],0,6⟩
 p:=fun u=>(u.1.t3.1,u.t3.1,u.t4.1,u.t5.1)
 t:=fun u=>(u.1.t4.1,u.t7.1.1)
 n:=fun p t=>(((),(),(),p.1,t.1,()),(),((),(),(),()),p.2.1,p.2.2.1,p.t3,((),()),(t.2,()),())
 st:=fun Y p t ki ke=>cond (decide (t.1<p.1))
  (ask (V.ja t.1 (da p.2.2.1)) ((Ia (yw.m (t.1,p.1,t.1,(gx p.2.2.1 (fa t.1) (false,false)),p.2)) (0,t.2)).bind fun e1=>
  ki ((Ea (t.1+(1:Int))),e1)))
  (ke (t.2))
 o:=fun Z p e K=>so K (.exit 2) ⟨[(0,.v (.yl 4)),(1,.p 0 0)],[],[.Za Vj,.cells .bool,.cells (.pair .bool .bool),.cells ya,.loop 180000 [(3,(.ptr 5 0))] .ready .normal,.Za (.cons .i .nil)],0,6⟩ (((),(),()),(),((),(),(),()),p.2.1,p.2.2.1,p.t3,((),()),(e,()),())
 Kd:=⟨[0,1,29,30,31],[],[],[]⟩
 pe:=[(.exit 2,⟨[0,1],[],[],[]⟩)]
def ot:LD (iR) (Int×Int) (Int)where
 sk:=⟨[(0,.v (.yl 4)),(54,.v (.all 3)),(55,.i),(56,.i)],[],[.Za Vj,.cells .bool,.cells (.pair .bool .bool),.cells ya,.loop 180000 [(3,(.ptr 5 0))] .ready .normal,.Za (.cons .i .nil)],0,6⟩
 p:=fun u=>(u.1.2.2.1,u.t3.1,u.t4.1,u.t5.1)
 t:=fun u=>(u.1.t3.1,u.t7.1.1)
 n:=fun p t=>(((),(),p.1,t.1,()),(),((),(),(),()),p.2.1,p.2.2.1,p.t3,((),()),(t.2,()),())
 st:=fun Y p t ki ke=>cond (decide (t.1<p.1))
  (ask (V.ja t.1 (da p.2.2.2)) ((Mk (3,0,(gx p.2.2.2 (fa t.1) vb).1,(gx p.2.2.2 (fa t.1) vb).2,t.2)).bind fun r1=>
  ki ((Ea (t.1+(1:Int))),r1)))
  (ke (t.2))
 o:=fun Z p e K=>so K (.exit 6) ⟨[],[],[.Za Vj,.cells .bool,.cells (.pair .bool .bool),.cells ya,.loop 180000 [(3,(.ptr 5 0))] .ready .normal,.Za (.cons .i .nil)],0,6⟩ ((),(),((),(),(),()),p.2.1,p.2.2.1,p.t3,((),()),(e,()),())
 Kd:=⟨[0,54,55,56],[],[],[]⟩
 pe:=[(.exit 6,⟨[],[],[],[]⟩)]
def TH{X:Type}(a:Y32)(K:Int->Option X):Option X:=
 (Ia (Aw.m ((nt (da a.1)),a.1,a.2.1,a.2.2.1)) (0,a.2.2.2)).bind fun e1=>
 (Ia (zw.m ((nt (da a.2.1)),a.1,a.2.1,a.2.2.1)) (0,e1)).bind fun e2=>
 (Ia (ot.m ((nt (da a.2.2.1)),a.1,a.2.1,a.2.2.1)) (0,e2)).bind fun e3=>
 K e3
def EA:=fun a=>TH a some
def mZ:Spec:=UP.sp EA
noncomputable def Bw:Env:=eE [] (Et [] [(180000,VA)]) (qL 1 Aw.q (qL 9 yw.q (qL 6 zw.q (qL 15 ot.q qN))))
theorem EK:LS C Bw true [6,10] 66 (.loop (pc [0,1,0,0] Tryz.f69)):=fun hc=>
 lO hc Aw (by intros;simp only[Aw,LD.m,nn])
theorem CK:LS C Bw true [6,10] 66 (.loop (pc [1,0,1,0,0,1,1,0,0,1,1,0,0] Tryz.f69)):=fun hc=>
 lO hc yw (by intros;simp only[yw,LD.m,nn])
theorem DK:LS C Bw true [6,10] 66 (.loop (pc [1,0,1,0,0] Tryz.f69)):=fun hc=>
 lO hc zw (by intros;simp only[zw,LD.m,nn]) (hl:=(nc (by kernel_rfl) (Va (CK hc) Mb)))
theorem SH:LS C Bw true [6,10] 66 (.loop (pc [1,1,1,0,0] Tryz.f69)):=fun hc=>
 lO hc ot (by intros;simp only[ot,LD.m,nn])
theorem nZ:OK (2) 69 (UP.sp EA):=
 fO (d:=1) (env:=Bw) (Mj cn (ccy QL cyn)) (fn:=Tryz.f69) (mc:=@TH) (by intros;simp only[EA,TH,nn]) (Fa:=[6,10]) (hl:=fun hc=>(nc (by kernel_rfl) (Va (EK hc) (Va (DK hc) (Va (SH hc) Mb)))))
def N_:FS (Y3) (Int)where
 sk:=⟨(.cons (.agg (cL [(.all 0),(.all 1),(.all 2)])) .nil),[.cells .bool,.cells (.pair .bool .bool),.cells ya],0⟩
 a:=fun u=>(u.2.1,u.2.2.1,u.t3.1)
 o:=fun Z a r K=>kv K .i [.cells .bool,.cells (.pair .bool .bool),.cells ya] 0 r (a.1,a.2.1,a.2.2,())
def fI:PD (Pa×Int) (Int)where
 sk:=⟨[(3,.p 3 0),(5,.v (.fn 69 (.cons (.ptr 4 0) .nil)))],[],[.cells .bool,.cells (.pair .bool .bool),.cells ya,.Za (.cons .i .nil),.Za V5],0,3⟩
 p:=fun u=>((q3 u.2.2),u.t5.1.1)
 st:=fun Y p ke=>(EA (p.1.1,p.1.2.1,p.1.2.2,p.2)).bind fun r1=>
  ke (r1)
 o:=fun Z p e K=>so K (.normal) ⟨[(3,.p 3 0)],[],[.cells .bool,.cells (.pair .bool .bool),.cells ya,.Za (.cons .i .nil)],0,3⟩ (((),()),(),p.1.1,p.1.2.1,p.1.2.2,(e,()),())
 Kd:=⟨[3,5],[],[],[]⟩
 pe:=[(.normal,⟨[3],[],[],[]⟩)]
def G1{X:Type}(a:Y3)(K:Int->Option X):Option X:=
 (fI.m (a,0)).bind fun e1=>
 K e1
def tC:=fun a=>G1 a some
def aae:Spec:=N_.sp tC
noncomputable def E1:Env:=eE [] (mb [(43,KK),(69,mZ)]) (qL 0 fI.q qN)
theorem oU:LS C E1 true [] 10 (rfC (pc [1,1,0,1,0] Tryz.f18)):=fun hc=>
 rO (env:=E1) hc (id:=180000) (ks:=[3]) fI (by intros;simp only[fI,PD.m,nn])
theorem bae:OK (3) 18 (N_.sp tC):=
 fO (d:=2) (env:=E1) (Da (cc LK (cc nZ cn))) (fn:=Tryz.f18) (mc:=@G1) (by intros;simp only[tC,G1,nn]) (hl:=fun hc=>(nc (by kernel_rfl) (Va (oU hc) Mb)))
def pR:FS (Int×Int×Int×Int×(List Bool)×(List (Bool×Bool))×(List za)×Int) (Int)where
 sk:=⟨(cL [(.yl 0),(.agg FB)]),[.loop 440003 [(3,(.ptr 1 0)),(5,(.ptr 5 0))] .ready .normal,.Za zM,.cells .bool,.cells (.pair .bool .bool),.cells ya,.Za (.cons .i .nil)],0⟩
 a:=fun u=>(r4 u.1.2.1 (r3 u.t3 u.t6.1.1))
 o:=fun Z a r K=>kv K (.bool) [.loop 440003 [(3,(.ptr 1 0)),(5,(.ptr 5 0))] .ready .normal,.Za zM,.cells .bool,.cells (.pair .bool .bool),.cells ya,.Za (.cons .i .nil)] 0 true (((),(),()),((),(),(),()),(r3 a.t4 ((r,()),())))
def ux{X:Type}(a:Int×Int×Int×Int×(List Bool)×(List (Bool×Bool))×(List za)×Int)(K:Int->Option X):Option X:=
 (Zg ((a.1,(a.2.1,(a.2.2.1,a.2.2.2.1))),a.2.2.2.2.1,a.2.2.2.2.2.1,a.2.2.2.2.2.2.1)).bind fun r1=>
 cond (!r1)
 (K (Ea (a.2.2.2.2.2.2.2+(1:Int))))
 (K a.2.2.2.2.2.2.2)
def Qh:=fun a=>ux a some
def SA:Spec:=pR.sp Qh
noncomputable def qR:Env:=eE [] (mb [(50,rN)]) qN
theorem OL:OKY (4) SA:=
 u5 (d:=3) (env:=qR) (Da (cc sN cn)) (id:=440003) (r:=rfT 440003) rfl (fun hc=>(nc (by kernel_rfl) Mb)) (fun hc=>(nc (by kernel_rfl) Mb)) (mc:=fun X a K=>ux a K) (fun _ _ _=>by kernel_rfl) (by intros;simp only[Qh,ux,nn])
def TP:FS (Y34) (Int)where
 sk:=⟨(cL [(.yl 1),(.ptr 0 0)]),[.Za Cd,.loop 440003 [(3,(.ptr 2 0)),(5,(.ptr 6 0))] .ready .normal,.Za iS,.cells .bool,.cells (.pair .bool .bool),.cells ya,.Za (.cons .i .nil)],0⟩
 a:=fun u=>((q3 u.2.1),(r3 u.t4 u.t7.1.1))
 o:=fun Z a r K=>kv K (.Qc .nil) [.Za Cd,.loop 440003 [(3,(.ptr 2 0)),(5,(.ptr 6 0))] .ready .normal,.Za iS,.cells .bool,.cells (.pair .bool .bool),.cells ya,.Za (.cons .i .nil)] 0 () ((a.1.1,a.1.2.1,a.1.2.2,()),((),(),()),((),(),(),()),(r3 a.2 ((r,()),())))
def Qi:LD ((List Bool)×Int×Pa×(List Bool)×(List (Bool×Bool))×(List za)) (Int×Int) (Int)where
 sk:=⟨[(0,.v (.yl 1)),(1,.p 0 0),(12,.v (.lit .bool)),(13,.i),(14,.i)],[],[.Za Cd,.loop 440003 [(3,(.ptr 2 0)),(5,(.ptr 6 0))] .ready .normal,.Za iS,.cells .bool,.cells (.pair .bool .bool),.cells ya,.Za (.cons .i .nil)],0,7⟩
 p:=fun u=>(u.1.2.2.1,u.1.t3.1,(q3 u.2.2.1),u.t5.1,u.t6.1,u.t7.1)
 t:=fun u=>(u.1.t4.1,u.t8.1.1)
 n:=fun p t=>(((),(),p.1,p.2.1,t.1,()),(),(p.2.2.1.1,p.2.2.1.2.1,p.2.2.1.2.2,()),((),(),()),((),(),(),()),p.t3.1,p.t4.1,p.t5,(t.2,()),())
 st:=fun Y p t ki ke=>cond (decide (t.1<p.2.1))
  (ask (V.ja t.1 (da p.1)) (cond (gx p.1 (fa t.1) false)
  ((Qh (0,t.1,0,0,p.2.2.2.1,p.2.2.2.2.1,p.2.2.2.2.2,t.2)).bind fun r1=>
  ki ((Ea (t.1+(1:Int))),r1))
  (ki ((Ea (t.1+(1:Int))),t.2))))
  (ke (t.2))
 o:=fun Z p e K=>so K (.exit 0) ⟨[(0,.v (.yl 1)),(1,.p 0 0)],[],[.Za Cd,.loop 440003 [(3,(.ptr 2 0)),(5,(.ptr 6 0))] .ready .normal,.Za iS,.cells .bool,.cells (.pair .bool .bool),.cells ya,.Za (.cons .i .nil)],0,7⟩ (((),(),()),(),(p.2.2.1.1,p.2.2.1.2.1,p.2.2.1.2.2,()),((),(),()),((),(),(),()),p.t3.1,p.t4.1,p.t5,(e,()),())
 Kd:=⟨[0,1,12,13,14],[],[],[]⟩
 pe:=[(.exit 0,⟨[0,1],[],[],[]⟩)]
def Vf:LD (Int×(List (Bool×Bool))×Int×Int×(Bool×Bool)×(Pa×Pa)) (Int×Int) (Int)where
 sk:=⟨[(0,.v (.yl 1)),(1,.p 0 0),(5,.i),(29,.v (.lit (.pair .bool .bool))),(30,.i),(31,.i),(36,.v (.agg (cL [.bool,.bool]))),(37,.i)],[],[.Za Cd,.loop 440003 [(3,(.ptr 2 0)),(5,(.ptr 6 0))] .ready .normal,.Za iS,.cells .bool,.cells (.pair .bool .bool),.cells ya,.Za (.cons .i .nil)],0,7⟩
 p:=fun u=>(r4 u.1.2.2 ((u.1.t6.1.1,u.1.t6.1.2.1),(q3 u.2.2.1),(q3 u.t5)))
 t:=fun u=>(u.1.t7.1,u.t8.1.1)
 n:=fun p t=>(((),(),(r4 p ((p.t4.1.1,p.t4.1.2,()),t.1,()))),(),(p.t5.1.1,p.t5.1.2.1,p.t5.1.2.2,()),((),(),()),((),(),(),()),p.t6.1,p.t7.1,p.t8,(t.2,()),())
 st:=fun Y p t ki ke=>cond (decide (t.1<(2:Int)))
  (cond (decide (t.1=(0:Int)))
  (cond p.2.2.2.2.1.1
  ((Qh ((Ea ((1:Int)+t.1)),p.1,0,0,p.2.2.2.2.2.2.1,p.2.2.2.2.2.2.2.1,p.2.2.2.2.2.2.2.2,t.2)).bind fun r1=>
  ki ((Ea (t.1+(1:Int))),r1))
  (ki ((Ea (t.1+(1:Int))),t.2)))
  (cond (decide (t.1=(1:Int)))
  (cond p.2.2.2.2.1.2
  ((Qh ((Ea ((1:Int)+t.1)),p.1,0,0,p.2.2.2.2.2.2.1,p.2.2.2.2.2.2.2.1,p.2.2.2.2.2.2.2.2,t.2)).bind fun r2=>
  ki ((Ea (t.1+(1:Int))),r2))
  (ki ((Ea (t.1+(1:Int))),t.2)))
  (none)))
  (ke (t.2))
 o:=fun Z p e K=>so K (.exit 4) ⟨[(0,.v (.yl 1)),(1,.p 0 0),(29,.v (.lit (.pair .bool .bool))),(30,.i),(31,.i)],[],[.Za Cd,.loop 440003 [(3,(.ptr 2 0)),(5,(.ptr 6 0))] .ready .normal,.Za iS,.cells .bool,.cells (.pair .bool .bool),.cells ya,.Za (.cons .i .nil)],0,7⟩ (((),(),(r3 p.2 ())),(),(p.t5.1.1,p.t5.1.2.1,p.t5.1.2.2,()),((),(),()),((),(),(),()),p.t6.1,p.t7.1,p.t8,(e,()),())
 Kd:=⟨[0,1,5,29,30,31,36,37],[],[],[]⟩
 pe:=[(.exit 4,⟨[0,1,29,30,31],[],[],[]⟩)]
def Lj:LD ((List (Bool×Bool))×Int×Pa×(List Bool)×(List (Bool×Bool))×(List za)) (Int×Int) (Int)where
 sk:=⟨[(0,.v (.yl 1)),(1,.p 0 0),(29,.v (.lit (.pair .bool .bool))),(30,.i),(31,.i)],[],[.Za Cd,.loop 440003 [(3,(.ptr 2 0)),(5,(.ptr 6 0))] .ready .normal,.Za iS,.cells .bool,.cells (.pair .bool .bool),.cells ya,.Za (.cons .i .nil)],0,7⟩
 p:=fun u=>(u.1.2.2.1,u.1.t3.1,(q3 u.2.2.1),u.t5.1,u.t6.1,u.t7.1)
 t:=fun u=>(u.1.t4.1,u.t8.1.1)
 n:=fun p t=>(((),(),p.1,p.2.1,t.1,()),(),(p.2.2.1.1,p.2.2.1.2.1,p.2.2.1.2.2,()),((),(),()),((),(),(),()),p.t3.1,p.t4.1,p.t5,(t.2,()),())
 st:=fun Y p t ki ke=>cond (decide (t.1<p.2.1))
  (ask (V.ja t.1 (da p.1)) ((Ia (Vf.m (t.1,p.1,p.2.1,t.1,(gx p.1 (fa t.1) (false,false)),p.2.2)) (0,t.2)).bind fun e1=>
  ki ((Ea (t.1+(1:Int))),e1)))
  (ke (t.2))
 o:=fun Z p e K=>so K (.exit 2) ⟨[(0,.v (.yl 1)),(1,.p 0 0)],[],[.Za Cd,.loop 440003 [(3,(.ptr 2 0)),(5,(.ptr 6 0))] .ready .normal,.Za iS,.cells .bool,.cells (.pair .bool .bool),.cells ya,.Za (.cons .i .nil)],0,7⟩ (((),(),()),(),(p.2.2.1.1,p.2.2.1.2.1,p.2.2.1.2.2,()),((),(),()),((),(),(),()),p.t3.1,p.t4.1,p.t5,(e,()),())
 Kd:=⟨[0,1,29,30,31],[],[],[]⟩
 pe:=[(.exit 2,⟨[0,1],[],[],[]⟩)]
def Zh:LD ((List za)×Int×Pa×(List Bool)×(List (Bool×Bool))×(List za)) (Int×Int) (Int)where
 sk:=⟨[(0,.v (.yl 1)),(54,.v (.lit ya)),(55,.i),(56,.i)],[],[.Za Cd,.loop 440003 [(3,(.ptr 2 0)),(5,(.ptr 6 0))] .ready .normal,.Za iS,.cells .bool,.cells (.pair .bool .bool),.cells ya,.Za (.cons .i .nil)],0,7⟩
 p:=fun u=>(u.1.2.1,u.1.2.2.1,(q3 u.2.2.1),u.t5.1,u.t6.1,u.t7.1)
 t:=fun u=>(u.1.t3.1,u.t8.1.1)
 n:=fun p t=>(((),p.1,p.2.1,t.1,()),(),(p.2.2.1.1,p.2.2.1.2.1,p.2.2.1.2.2,()),((),(),()),((),(),(),()),p.t3.1,p.t4.1,p.t5,(t.2,()),())
 st:=fun Y p t ki ke=>cond (decide (t.1<p.2.1))
  (ask (V.ja t.1 (da p.1)) ((Qh (3,0,(gx p.1 (fa t.1) vb).1,(gx p.1 (fa t.1) vb).2,p.2.2.2.1,p.2.2.2.2.1,p.2.2.2.2.2,t.2)).bind fun r1=>
  ki ((Ea (t.1+(1:Int))),r1)))
  (ke (t.2))
 o:=fun Z p e K=>so K (.exit 6) ⟨[],[],[.Za Cd,.loop 440003 [(3,(.ptr 2 0)),(5,(.ptr 6 0))] .ready .normal,.Za iS,.cells .bool,.cells (.pair .bool .bool),.cells ya,.Za (.cons .i .nil)],0,7⟩ ((),(),(p.2.2.1.1,p.2.2.1.2.1,p.2.2.1.2.2,()),((),(),()),((),(),(),()),p.t3.1,p.t4.1,p.t5,(e,()),())
 Kd:=⟨[0,54,55,56],[],[],[]⟩
 pe:=[(.exit 6,⟨[],[],[],[]⟩)]
def DA{X:Type}(a:Y34)(K:Int->Option X):Option X:=
 (Ia (Qi.m (a.1.1,(nt (da a.1.1)),a.1,a.2.1,a.2.2.1,a.2.2.2.1)) (0,a.2.2.2.2)).bind fun e1=>
 (Ia (Lj.m (a.1.2.1,(nt (da a.1.2.1)),a.1,a.2.1,a.2.2.1,a.2.2.2.1)) (0,e1)).bind fun e2=>
 (Ia (Zh.m (a.1.2.2,(nt (da a.1.2.2)),a.1,a.2.1,a.2.2.1,a.2.2.2.1)) (0,e2)).bind fun e3=>
 K e3
def jt:=fun a=>DA a some
def kZ:Spec:=TP.sp jt
noncomputable def xw:Env:=eE [] (Et [] [(440003,SA)]) (qL 1 Qi.q (qL 9 Vf.q (qL 6 Lj.q (qL 15 Zh.q qN))))
theorem BK:LS C xw true [6,10] 66 (.loop (pc [0,1,0,0] Tryz.f69)):=fun hc=>
 lO hc Qi (by intros;simp only[Qi,LD.m,nn])
theorem zK:LS C xw true [6,10] 66 (.loop (pc [1,0,1,0,0,1,1,0,0,1,1,0,0] Tryz.f69)):=fun hc=>
 lO hc Vf (by intros;simp only[Vf,LD.m,nn])
theorem AK:LS C xw true [6,10] 66 (.loop (pc [1,0,1,0,0] Tryz.f69)):=fun hc=>
 lO hc Lj (by intros;simp only[Lj,LD.m,nn]) (hl:=(nc (by kernel_rfl) (Va (zK hc) Mb)))
theorem QH:LS C xw true [6,10] 66 (.loop (pc [1,1,1,0,0] Tryz.f69)):=fun hc=>
 lO hc Zh (by intros;simp only[Zh,LD.m,nn])
theorem lZ:OK (5) 69 (TP.sp jt):=
 fO (d:=4) (env:=xw) (Mj cn (ccy OL cyn)) (fn:=Tryz.f69) (mc:=@DA) (by intros;simp only[jt,DA,nn]) (Fa:=[6,10]) (hl:=fun hc=>(nc (by kernel_rfl) (Va (BK hc) (Va (AK hc) (Va (QH hc) Mb)))))
def n_:FS (E8) (Int)where
 sk:=⟨(cL [(.agg Cd),(.agg (cL [(.all 0),(.all 1),(.all 2)]))]),[.cells .bool,.cells (.pair .bool .bool),.cells ya],0⟩
 a:=fun u=>((q3 u.1.1),u.2.1,u.2.2.1,u.t3.1)
 o:=fun Z a r K=>kv K .i [.cells .bool,.cells (.pair .bool .bool),.cells ya] 0 r (a.2.1,a.2.2.1,a.t3,())
def gC:PD (Pa×Int×Pa) (Int)where
 sk:=⟨[(3,.p 3 0),(5,.p 4 0),(8,.v (.fn 69 (.cons (.ptr 5 0) .nil)))],[],[.cells .bool,.cells (.pair .bool .bool),.cells ya,.Za V5,.Za (.cons .i .nil),.Za Cd],0,3⟩
 p:=fun u=>((q3 u.2.2),u.t6.1.1,u.t7.1.1,(u.t7.1.2.1,u.t7.1.2.2.1))
 st:=fun Y p ke=>(jt (p.2.2,p.1.1,p.1.2.1,p.1.2.2,p.2.1)).bind fun r1=>
  ke (r1)
 o:=fun Z p e K=>so K (.normal) ⟨[(5,.p 3 0)],[],[.cells .bool,.cells (.pair .bool .bool),.cells ya,.Za (.cons .i .nil)],0,3⟩ (((),()),(),p.1.1,p.1.2.1,p.1.2.2,(e,()),())
 Kd:=⟨[3,5,8],[],[],[]⟩
 pe:=[(.normal,⟨[5],[],[],[]⟩)]
def qQ{X:Type}(a:E8)(K:Int->Option X):Option X:=
 (gC.m (a.2,0,a.1)).bind fun e1=>
 K e1
def iC:=fun a=>qQ a some
def dad:Spec:=n_.sp iC
noncomputable def OZ:Env:=eE [] (mb [(43,RZ),(69,kZ)]) (qL 3 gC.q qN)
theorem wT:LS C OZ true [] 17 (rfC (pc [1,1,0,1,0] Tryz.f44)):=fun hc=>
 rO (env:=OZ) hc (id:=440003) (ks:=[3,5]) gC (by intros;simp only[gC,PD.m,nn])
theorem ead:OK (6) 44 (n_.sp iC):=
 fO (d:=5) (env:=OZ) (Da (cc SZ (cc lZ cn))) (fn:=Tryz.f44) (mc:=@qQ) (by intros;simp only[iC,qQ,nn]) (hl:=fun hc=>(nc (by kernel_rfl) (Va (wT hc) Mb)))
def rQ:FS (Unit) (Unit)where
 sk:=⟨(.cons (.agg (cL [.Ya,.Ya,.Ya])) .nil),[],0⟩
 a:=fun u=>()
 o:=fun Z a r K=>kv K (.fn 69 (.cons (.ptr 0 0) .nil)) [.Za (cL [.Ya,.Ya,.Ya])] 0 ((),()) (((),(),(),()),())
def ZH{X:Type}(a:Unit)(K:Unit->Option X):Option X:=
 K ()
def YH:=fun a=>ZH a some
def PZ:Spec:=rQ.sp YH
noncomputable def N7:Env:=eE [] (mb []) qN
theorem QZ:OK (1) 43 (rQ.sp YH):=
 fO (d:=0) (env:=N7) (Da cn) (fn:=Tryz.f43) (mc:=@ZH) (by intros;simp only[YH,ZH,nn])
def SP:FS (Y3) (Y3)where
 sk:=⟨(cL [(.yl 1),(.ptr 0 0)]),[.Za (cL [.Ya,.Ya,.Ya]),.loop 230003 [(5,(.ptr 2 0))] .ready .normal,.Za iS,.cells .bool,.cells (.pair .bool .bool),.cells ya],0⟩
 a:=fun u=>(u.t4.1,u.t5.1,u.t6.1)
 o:=fun Z a r K=>kv K (.Qc .nil) [.Za (cL [.Ya,.Ya,.Ya]),.loop 230003 [(5,(.ptr 2 0))] .ready .normal,.Za PI,.cells .bool,.cells (.pair .bool .bool),.dead,.cells ya] 0 () (((),(),(),()),((),()),((),(),(),()),r.1,r.2.1,(),r.2.2,())
def tw:LD ((List Bool)×Int) (iR) (Y3)where
 sk:=⟨[(0,.v (.yl 1)),(1,.p 0 0),(12,.v (.lit .bool)),(13,.i),(14,.i)],[],[.Za (cL [.Ya,.Ya,.Ya]),.loop 230003 [(5,(.ptr 2 0))] .ready .normal,.Za PI,.cells .bool,.cells (.pair .bool .bool),.dead,.cells ya],0,6⟩
 p:=fun u=>(u.1.2.2.1,u.1.t3.1)
 t:=fun u=>(u.1.t4.1,u.t5.1,u.t6.1,u.t8.1)
 n:=fun p t=>(((),(),p.1,p.2,t.1,()),(),((),(),(),()),((),()),((),(),(),()),t.2.1,t.2.2.1,(),t.t3,())
 st:=fun Y p t ki ke=>cond (decide (t.1<p.2))
  (ask (V.ja t.1 (da p.1)) (cond (gx p.1 (fa t.1) false)
  ((Qd (0,t.1,0,0,t.2.1,t.2.2.1,t.2.2.2)).bind fun r1=>
  Sum.elim (fun r2=>ki ((Ea (t.1+(1:Int))),r2.1,r2.2,t.2.2.2))
  (fun r3=>ki ((Ea (t.1+(1:Int))),t.2.1,t.2.2.1,r3)) r1)
  (ki ((Ea (t.1+(1:Int))),t.2.1,t.2.2.1,t.2.2.2))))
  (ke ((t.2.1,t.2.2.1,t.2.2.2)))
 o:=fun Z p e K=>so K (.exit 0) ⟨[(0,.v (.yl 1)),(1,.p 0 0)],[],[.Za (cL [.Ya,.Ya,.Ya]),.loop 230003 [(5,(.ptr 2 0))] .ready .normal,.Za PI,.cells .bool,.cells (.pair .bool .bool),.dead,.cells ya],0,6⟩ (((),(),()),(),((),(),(),()),((),()),((),(),(),()),e.1,e.2.1,(),e.2.2,())
 Kd:=⟨[0,1,12,13,14],[(12,(.lit .bool))],[],[(2,[.any,.any,(.mv ya)])]⟩
 pe:=[(.exit 0,⟨[0,1],[],[],[]⟩)]
def qw:LD (Int×((List (Bool×Bool))×Int)×Int×(Bool×Bool)) (iR) (Y3)where
 sk:=⟨[(0,.v (.yl 1)),(1,.p 0 0),(5,.i),(29,.v (.lit (.pair .bool .bool))),(30,.i),(31,.i),(36,.v (.agg (cL [.bool,.bool]))),(37,.i)],[],[.Za (cL [.Ya,.Ya,.Ya]),.loop 230003 [(5,(.ptr 2 0))] .ready .normal,.Za PI,.cells .bool,.cells (.pair .bool .bool),.dead,.cells ya],0,6⟩
 p:=fun u=>(u.1.2.2.1,(u.1.t3.1,u.1.t4.1),u.1.t5.1,u.1.t6.1.1,u.1.t6.1.2.1)
 t:=fun u=>(u.1.t7.1,u.t5.1,u.t6.1,u.t8.1)
 n:=fun p t=>(((),(),p.1,p.2.1.1,p.2.1.2,p.2.2.1,(p.t3.1,p.t4,()),t.1,()),(),((),(),(),()),((),()),((),(),(),()),t.2.1,t.2.2.1,(),t.t3,())
 st:=fun Y p t ki ke=>cond (decide (t.1<(2:Int)))
  (cond (decide (t.1=(0:Int)))
  (cond p.2.2.2.1
  ((Qd ((Ea ((1:Int)+t.1)),p.1,0,0,t.2.1,t.2.2.1,t.2.2.2)).bind fun r1=>
  Sum.elim (fun r2=>ki ((Ea (t.1+(1:Int))),r2.1,r2.2,t.2.2.2))
  (fun r3=>ki ((Ea (t.1+(1:Int))),t.2.1,t.2.2.1,r3)) r1)
  (ki ((Ea (t.1+(1:Int))),t.2.1,t.2.2.1,t.2.2.2)))
  (cond (decide (t.1=(1:Int)))
  (cond p.2.2.2.2
  ((Qd ((Ea ((1:Int)+t.1)),p.1,0,0,t.2.1,t.2.2.1,t.2.2.2)).bind fun r4=>
  Sum.elim (fun r5=>ki ((Ea (t.1+(1:Int))),r5.1,r5.2,t.2.2.2))
  (fun r6=>ki ((Ea (t.1+(1:Int))),t.2.1,t.2.2.1,r6)) r4)
  (ki ((Ea (t.1+(1:Int))),t.2.1,t.2.2.1,t.2.2.2)))
  (none)))
  (ke ((t.2.1,t.2.2.1,t.2.2.2)))
 o:=fun Z p e K=>so K (.exit 4) ⟨[(0,.v (.yl 1)),(1,.p 0 0),(29,.v (.lit (.pair .bool .bool))),(30,.i),(31,.i)],[],[.Za (cL [.Ya,.Ya,.Ya]),.loop 230003 [(5,(.ptr 2 0))] .ready .normal,.Za PI,.cells .bool,.cells (.pair .bool .bool),.dead,.cells ya],0,6⟩ (((),(),p.2.1.1,p.2.1.2,p.2.2.1,()),(),((),(),(),()),((),()),((),(),(),()),e.1,e.2.1,(),e.2.2,())
 Kd:=⟨[0,1,5,29,30,31,36,37],[],[],[]⟩
 pe:=[(.exit 4,⟨[0,1,29,30,31],[],[],[]⟩)]
def sw:LD ((List (Bool×Bool))×Int) (iR) (Y3)where
 sk:=⟨[(0,.v (.yl 1)),(1,.p 0 0),(29,.v (.lit (.pair .bool .bool))),(30,.i),(31,.i)],[],[.Za (cL [.Ya,.Ya,.Ya]),.loop 230003 [(5,(.ptr 2 0))] .ready .normal,.Za PI,.cells .bool,.cells (.pair .bool .bool),.dead,.cells ya],0,6⟩
 p:=fun u=>(u.1.2.2.1,u.1.t3.1)
 t:=fun u=>(u.1.t4.1,u.t5.1,u.t6.1,u.t8.1)
 n:=fun p t=>(((),(),p.1,p.2,t.1,()),(),((),(),(),()),((),()),((),(),(),()),t.2.1,t.2.2.1,(),t.t3,())
 st:=fun Y p t ki ke=>cond (decide (t.1<p.2))
  (ask (V.ja t.1 (da p.1)) ((Ia (qw.m (t.1,p,t.1,(gx p.1 (fa t.1) (false,false)))) (0,t.2.1,t.2.2.1,t.2.2.2)).bind fun e1=>
  ki ((Ea (t.1+(1:Int))),e1.1,e1.2.1,e1.2.2)))
  (ke ((t.2.1,t.2.2.1,t.2.2.2)))
 o:=fun Z p e K=>so K (.exit 2) ⟨[(0,.v (.yl 1)),(1,.p 0 0)],[],[.Za (cL [.Ya,.Ya,.Ya]),.loop 230003 [(5,(.ptr 2 0))] .ready .normal,.Za PI,.cells .bool,.cells (.pair .bool .bool),.dead,.cells ya],0,6⟩ (((),(),()),(),((),(),(),()),((),()),((),(),(),()),e.1,e.2.1,(),e.2.2,())
 Kd:=⟨[0,1,29,30,31],[(29,(.lit (.pair .bool .bool)))],[],[]⟩
 pe:=[(.exit 2,⟨[0,1],[],[],[]⟩)]
def Zs:LD ((List za)×Int) (iR) (Y3)where
 sk:=⟨[(0,.v (.yl 1)),(54,.v (.lit ya)),(55,.i),(56,.i)],[],[.Za (cL [.Ya,.Ya,.Ya]),.loop 230003 [(5,(.ptr 2 0))] .ready .normal,.Za PI,.cells .bool,.cells (.pair .bool .bool),.dead,.cells ya],0,6⟩
 p:=fun u=>(u.1.2.1,u.1.2.2.1)
 t:=fun u=>(u.1.t3.1,u.t5.1,u.t6.1,u.t8.1)
 n:=fun p t=>(((),p.1,p.2,t.1,()),(),((),(),(),()),((),()),((),(),(),()),t.2.1,t.2.2.1,(),t.t3,())
 st:=fun Y p t ki ke=>cond (decide (t.1<p.2))
  (ask (V.ja t.1 (da p.1)) ((Qd (3,0,(gx p.1 (fa t.1) vb).1,(gx p.1 (fa t.1) vb).2,t.2.1,t.2.2.1,t.2.2.2)).bind fun r1=>
  Sum.elim (fun r2=>ki ((Ea (t.1+(1:Int))),r2.1,r2.2,t.2.2.2))
  (fun r3=>ki ((Ea (t.1+(1:Int))),t.2.1,t.2.2.1,r3)) r1))
  (ke ((t.2.1,t.2.2.1,t.2.2.2)))
 o:=fun Z p e K=>so K (.exit 6) ⟨[],[],[.Za (cL [.Ya,.Ya,.Ya]),.loop 230003 [(5,(.ptr 2 0))] .ready .normal,.Za PI,.cells .bool,.cells (.pair .bool .bool),.dead,.cells ya],0,6⟩ ((),(),((),(),(),()),((),()),((),(),(),()),e.1,e.2.1,(),e.2.2,())
 Kd:=⟨[0,54,55,56],[(54,(.lit ya))],[],[]⟩
 pe:=[(.exit 6,⟨[],[],[],[]⟩)]
def OH{X:Type}(a:Y3)(K:Y3->Option X):Option X:=
 (Ia (tw.m ([],0)) (0,a.1,a.2.1,a.2.2)).bind fun e1=>
 (Ia (sw.m ([],0)) (0,e1.1,e1.2.1,e1.2.2)).bind fun e2=>
 (Ia (Zs.m ([],0)) (0,e2.1,e2.2.1,e2.2.2)).bind fun e3=>
 K (e3.1,e3.2.1,e3.2.2)
def CA:=fun a=>OH a some
def iZ:Spec:=SP.sp CA
noncomputable def uw:Env:=eE [] (Et [] [(230003,ou)]) (qL 1 tw.q (qL 9 qw.q (qL 6 sw.q (qL 15 Zs.q qN))))
theorem xK:LS C uw true [6,10] 66 (.loop (pc [0,1,0,0] Tryz.f69)):=fun hc=>
 lO hc tw (by intros;simp only[tw,LD.m,nn])
theorem vK:LS C uw true [6,10] 66 (.loop (pc [1,0,1,0,0,1,1,0,0,1,1,0,0] Tryz.f69)):=fun hc=>
 lO hc qw (by intros;simp only[qw,LD.m,nn])
theorem wK:LS C uw true [6,10] 66 (.loop (pc [1,0,1,0,0] Tryz.f69)):=fun hc=>
 lO hc sw (by intros;simp only[sw,LD.m,nn]) (hl:=(nc (by kernel_rfl) (Va (vK hc) Mb)))
theorem NH:LS C uw true [6,10] 66 (.loop (pc [1,1,1,0,0] Tryz.f69)):=fun hc=>
 lO hc Zs (by intros;simp only[Zs,LD.m,nn])
theorem jZ:OK (5) 69 (SP.sp CA):=
 fO (d:=4) (env:=uw) (Mj cn (ccy UA cyn)) (fn:=Tryz.f69) (mc:=@OH) (by intros;simp only[CA,OH,nn]) (Fa:=[6,10]) (hl:=fun hc=>(nc (by kernel_rfl) (Va (xK hc) (Va (wK hc) (Va (NH hc) Mb)))))
end
end Go.U
end
