/- The functions of the program as Lean functions, and that the evaluator says so. -/
import Derived.Test.YtjenflkegbmkkaaGreatDoorC6
set_option linter.unusedVariables false
set_option linter.unusedSimpArgs false
set_option linter.unusedSectionVars false
open Int renaming toNat→ga
open List renaming length→fa,set→Tb
section
set_option maxRecDepth 100000
namespace Go.U
open Go Go.Proofs
noncomputable section
variable {C:V.Callee}
def Z6:FS (Y4) (Pa×Uu×Int) where
 sk:=⟨(.cons (.agg tc) (.cons (.lit (.int .i64)) (.cons (.int .i64) .nil))),[],0⟩
 a:=fun u=>((q8 u.1.1),u.1.2.1,u.1.2.2.1)
 n:=fun a=>(((w8 a.1),(a.2.1,(a.2.2,()))),())
 o:=fun Z a r K=>K (.Rc [.agg [.lit .bool r.1.1,.lit (.pair .bool .bool) r.1.2.1,.lit ja r.1.2.2],.agg [.int .i64 r.2.1.1,.int .i64 r.2.1.2.1,.int .i64 r.2.1.2.2.1,.int .i64 r.2.1.t3.1,.int .i64 r.2.1.t4.1,.lit (.int .i64) r.2.1.t5.1,.lit (.slice (.int .i64)) r.2.1.t6.1,.lit (.slice (.int .i64)) r.2.1.t7],.int .i64 r.2.2]) ⟨[],0⟩
def NN {X:Type} (a:Y4) (K:(Pa×Uu×Int)->Option X):Option X:=
 (Tr a.1).bind fun r1=>
 (MA (a.1,a.2.1,a.2.2,(-1),r1.1,r1.2.1,r1.2.2,0,a.1)).bind fun r2=>
 cond (decide (r2.1=(1:Int)))
 (K ((r2.2.2.2.2.2.2.2.1,(r2.2.2.2.2.2.2.2.2.1,([(r2.2.1,r2.2.2.1)]:List Ra))),(r2.1,(r2.2.1,(r2.2.2.1,(r2.2.2.2.1,(r2.2.2.2.2.1,(r2.2.2.2.2.2.1,r2.2.2.2.2.2.2.2.2.2.2)))))),r2.2.2.2.2.2.2.1))
 (K ((r2.2.2.2.2.2.2.2.1,(r2.2.2.2.2.2.2.2.2.1,r1.2.2)),(r2.1,(r2.2.1,(r2.2.2.1,(r2.2.2.2.1,(r2.2.2.2.2.1,(r2.2.2.2.2.2.1,r2.2.2.2.2.2.2.2.2.2.2)))))),r2.2.2.2.2.2.2.1))
def Lx:=fun a=>NN a some
def mL:Spec:=Z6.sp Lx
noncomputable def xae:Env:=⟨fun k=>[].contains k,Cb [(14,YF),(25,uaa)],fun X k s K=>none⟩
theorem nL:OK (5) 37 (Z6.sp Lx):=
 fO (d:=4) (env:=xae) (Aa (cc ZF (cc vaa cn))) (fn:=Tryz.f37) (mc:=@NN) (by intros;simp only [Lx,NN,nn]) (za:=[6,7,12]) (sh:=(.Rc [(.agg [(.lit .bool),(.lit (.pair .bool .bool)),(.lit ja)]),(.agg [.any,.any,.any,.any,.any,(.lit (.int .i64)),(.lit (.slice (.int .i64))),(.lit (.slice (.int .i64)))]),.any])) (fz:=true)
def S6:FS (Pa) (Unit) where
 sk:=⟨(.cons (.agg wh) .nil),[],0⟩
 a:=fun u=>(q3 u.1.1)
 n:=fun a=>(((w3 a),()),())
 o:=fun Z a r K=>K (.fn 69 [.ptr 0 0]) ⟨[.fb [.lit .bool a.1,.lit (.pair .bool .bool) a.2.1,.lit ja a.2.2]],0⟩
def jX {X:Type} (a:Pa) (K:Unit->Option X):Option X:=
 K ()
def iX:=fun a=>jX a some
def dX:Spec:=S6.sp iX
noncomputable def uae:Env:=⟨fun k=>[].contains k,Cb [],fun X k s K=>none⟩
theorem gX:OK (1) 43 (S6.sp iX):=
 fO (d:=0) (env:=uae) (Aa cn) (fn:=Tryz.f43) (mc:=@jX) (by intros;simp only [iX,jX,nn])
def kY:FS (Y27) (Int) where
 sk:=⟨(.cons (.all 0) (.cons (.agg Qi) .nil)),[.cells ja],0⟩
 a:=fun u=>((u.1.2.1.1,u.1.2.1.2.1),u.2.1)
 n:=fun a=>(((),((a.1.1,(a.1.2,())),())),(a.2,()))
 o:=fun Z a r K=>K (.int .i64 r) ⟨[.cells ja a.2],0⟩
def Mn:LD (Int×(Ra×(List Ra))) (Int) ((Int) ⊕ (Unit)) where
 sk:=⟨[(0,.v (.all 0)),(3,.loc 0 0),(7,.v (.int .i64)),(8,.v (.int .i64))],[Qi],[.cells ja],0,1⟩
 p:=fun u=>(u.1.2.1,((u.2.1.1.1,u.2.1.1.2.1),u.2.2.1))
 t:=fun u=>u.1.2.2.1
 n:=fun p t=>(((),(p.1,(t,()))),(((p.2.1.1,(p.2.1.2,())),()),(p.2.2,())))
 st:=fun Y p t ki ke=>cond (decide (t<p.1))
  (ask (V.va t (fa p.2.2)) (cond ((decide (p.2.1.1=(gx p.2.2 (ga t) Zb).1))&&((decide (p.2.1.2=(gx p.2.2 (ga t) Zb).2))&&true))
  (ke (.inl (t)))
  (ki ((Ga (t+(1:Int)))))))
  (ke (.inr (())))
 o:=fun Z p e K=>Sum.elim (fun e=>K .ret ⟨[(4,.v (.int .i64 e))],[],⟨[.cells ja p.2.2],0⟩,1⟩) (fun e=>K (.exit 0) ⟨[],[],⟨[.cells ja p.2.2],0⟩,1⟩) e
 Je:=⟨[0,3,7,8],[],[],[]⟩
 pe:=[(.ret,⟨[4],[],[],[]⟩),(.exit 0,⟨[],[],[],[]⟩)]
def dG {X:Type} (a:Y27) (K:Int->Option X):Option X:=
 (Oa (Mn.m ((nt (fa a.2)),a)) 0).bind fun e1=>
 Sum.elim (fun e2=>K e2)
 (fun e3=>K (-1)) e1
def Fw:=fun a=>dG a some
def L3:Spec:=kY.sp Fw
noncomputable def HL:Env:=⟨fun k=>[].contains k,Cb [],fun X k s K=>if k=2 then Mn.q X s K else none⟩
noncomputable def yR:Code:=Lb [1,0,1,0,0] (vb Tryz.f115)
theorem GL (hc:Sa C HL.call):Va HL.loop (vc par C true [3] 19) (.loop yR):=
 lO hc Mn (by intros;simp only [Mn,LD.m,nn])
theorem M3:OK (1) 115 (kY.sp Fw):=
 fO (d:=0) (env:=HL) (Aa cn) (fn:=Tryz.f115) (mc:=@dG) (by intros;simp only [Fw,dG,nn]) (za:=[3]) (hl:=fun hc=>(Yc (by kernel_rfl) (Db (GL hc) Bc)))
def s6:FS (Y27) (Bool) where
 sk:=⟨(.cons (.all 0) (.cons (.agg Qi) .nil)),[.cells ja],0⟩
 a:=fun u=>((u.1.2.1.1,u.1.2.1.2.1),u.2.1)
 n:=fun a=>(((),((a.1.1,(a.1.2,())),())),(a.2,()))
 o:=fun Z a r K=>K (.bool r) ⟨[.cells ja a.2],0⟩
def pN {X:Type} (a:Y27) (K:Bool->Option X):Option X:=
 (Fw (a.1,a.2)).bind fun r1=>
 K (decide ((0:Int)<=r1))
def FA:=fun a=>pN a some
def q_:Spec:=s6.sp FA
noncomputable def hae:Env:=⟨fun k=>[].contains k,Cb [(115,L3)],fun X k s K=>none⟩
theorem r_:OK (2) 72 (s6.sp FA):=
 fO (d:=1) (env:=hae) (Aa (cc M3 cn)) (fn:=Tryz.f72) (mc:=@pN) (by intros;simp only [FA,pN,nn]) (za:=[3])
def L6:FS (Y28) (Bool) where
 sk:=⟨(.cons (.agg (.cons (.all 0) (.cons (.all 1) (.cons (.all 2) .nil)))) (.cons (.agg jA) .nil)),[.cells .bool,.cells (.pair .bool .bool),.cells ja],0⟩
 a:=fun u=>((q4 u.1.2.1),u.2.1,u.2.2.1,u.t3.1)
 n:=fun a=>((((),((),((),()))),((w4 a.1),())),(w3 a.2))
 o:=fun Z a r K=>K (.bool r) ⟨[.cells .bool a.2.1,.cells (.pair .bool .bool) a.2.2.1,.cells ja a.t3],0⟩
def uD {X:Type} (a:Y28) (K:Bool->Option X):Option X:=
 cond (decide (a.1.1=(0:Int)))
 (cond (decide (a.1.2.1<(nt (fa a.2.1))))
 (ask (V.va a.1.2.1 (fa a.2.1)) (K (gx a.2.1 (ga a.1.2.1) false)))
 (K false))
 (cond (decide (a.1.1=(3:Int)))
 ((FA (a.1.2.2,a.2.2.2)).bind fun r1=>
 K r1)
 (cond (decide (a.1.2.1<(nt (fa a.2.2.1))))
 (ask (V.va a.1.2.1 (fa a.2.2.1)) (cond (decide ((Ga (a.1.1-(1:Int)))=(0:Int)))
 (K (gx a.2.2.1 (ga a.1.2.1) (false,false)).1)
 (cond (decide ((Ga (a.1.1-(1:Int)))=(1:Int)))
 (K (gx a.2.2.1 (ga a.1.2.1) (false,false)).2)
 (none))))
 (K false)))
def Kg:=fun a=>uD a some
def eL:Spec:=L6.sp Kg
noncomputable def tae:Env:=⟨fun k=>[].contains k,Cb [(72,q_)],fun X k s K=>none⟩
theorem gL:OK (3) 50 (L6.sp Kg):=
 fO (d:=2) (env:=tae) (Aa (cc r_ cn)) (fn:=Tryz.f50) (mc:=@uD) (by intros;simp only [Kg,uD,nn]) (za:=[2,3])
def LO:FS (Int×Int×Int×Int×(List Bool)×(List (Bool×Bool))×(List Ra)) (((List Bool)×(List (Bool×Bool))) ⊕ ((List Ra))) where
 sk:=⟨(.cons (.yl 0) (.cons (.agg jA) .nil)),[.loop 230003 [(5,(.ptr 1 0))] .ready .normal,.fb K8,.cells .bool,.cells (.pair .bool .bool),.cells ja],0⟩
 a:=fun u=>(u.1.2.1.1,u.1.2.1.2.1,u.1.2.1.2.2.1,u.1.2.1.t3.1,u.t3.1,u.t4.1,u.t5.1)
 n:=fun a=>(((),((a.1,(a.2.1,(a.2.2.1,(a.t3.1,())))),())),(((),()),(((),((),((),()))),(w3 a.t4))))
 o:=fun Z a r K=>Sum.elim (fun e=>K (.bool true) ⟨[.loop 230003 [(5,.ptr 1 0)] .ready .normal,.fb [.all 2,.all 3,.all 4],.cells .bool e.1,.cells (.pair .bool .bool) e.2,.cells ja a.t6],0⟩) (fun e=>K (.bool true) ⟨[.loop 230003 [(5,.ptr 1 0)] .ready .normal,.fb [.all 2,.all 3,.all 5],.cells .bool a.t4.1,.cells (.pair .bool .bool) a.t5.1,.dead,.cells ja e],0⟩) r
def Ki {X:Type} (a:Int×Int×Int×Int×(List Bool)×(List (Bool×Bool))×(List Ra)) (K:((List Bool)×(List (Bool×Bool))) ⊕ ((List Ra))->Option X):Option X:=
 cond (decide (a.1=(0:Int)))
 (ask (V.va a.2.1 (fa a.2.2.2.2.1)) (K (.inl ((Tb a.2.2.2.2.1 (ga a.2.1) true),a.2.2.2.2.2.1))))
 (cond (decide (a.1=(3:Int)))
 ((Kg ((a.1,(a.2.1,(a.2.2.1,a.2.2.2.1))),a.2.2.2.2.1,a.2.2.2.2.2.1,a.2.2.2.2.2.2)).bind fun r1=>
 cond (!r1)
 (ask (decide (((fa a.2.2.2.2.2.2)+(fa ([(a.2.2.1,a.2.2.2.1)]:List Ra))) * 16<=70368744177664)&&decide (((fa a.2.2.2.2.2.2)+(fa ([(a.2.2.1,a.2.2.2.1)]:List Ra)))<9223372036854775808)) (K (.inr ((a.2.2.2.2.2.2++([(a.2.2.1,a.2.2.2.1)]:List Ra))))))
 (cond (decide (a.1<(3:Int)))
 (ask (V.va a.2.1 (fa a.2.2.2.2.2.1)) (cond (decide ((Ga (a.1-(1:Int)))=(0:Int)))
 (K (.inl (a.2.2.2.2.1,(Tb a.2.2.2.2.2.1 (ga a.2.1) (true,(gx a.2.2.2.2.2.1 (ga a.2.1) (false,false)).2)))))
 (cond (decide ((Ga (a.1-(1:Int)))=(1:Int)))
 (K (.inl (a.2.2.2.2.1,(Tb a.2.2.2.2.2.1 (ga a.2.1) ((gx a.2.2.2.2.2.1 (ga a.2.1) (false,false)).1,true)))))
 (none))))
 (K (.inl (a.2.2.2.2.1,a.2.2.2.2.2.1)))))
 (cond (decide (a.1<(3:Int)))
 (ask (V.va a.2.1 (fa a.2.2.2.2.2.1)) (cond (decide ((Ga (a.1-(1:Int)))=(0:Int)))
 (K (.inl (a.2.2.2.2.1,(Tb a.2.2.2.2.2.1 (ga a.2.1) (true,(gx a.2.2.2.2.2.1 (ga a.2.1) (false,false)).2)))))
 (cond (decide ((Ga (a.1-(1:Int)))=(1:Int)))
 (K (.inl (a.2.2.2.2.1,(Tb a.2.2.2.2.2.1 (ga a.2.1) ((gx a.2.2.2.2.2.1 (ga a.2.1) (false,false)).1,true)))))
 (none))))
 (K (.inl (a.2.2.2.2.1,a.2.2.2.2.2.1)))))
def Ld:=fun a=>Ki a some
def As:Spec:=LO.sp Ld
noncomputable def MO:Env:=⟨fun k=>[].contains k,Cb [(50,eL)],fun X k s K=>none⟩
theorem yz:OKY (4) As:=
 EZ (d:=3) (env:=MO) (Aa (cc gL cn)) (id:=230003) (r:=rfT 230003) rfl (fun hc=>(Yc (by kernel_rfl) Bc)) (fun hc=>(Yc (by kernel_rfl) Bc)) (mc:=fun X a K=>Ki a K) (fun _ _ _=>by kernel_rfl) (by intros;simp only [Ld,Ki,nn]) (fun _=>rfl)
def x6:FS (Y29) (Y3) where
 sk:=⟨(.cons (.yl 1) (.cons (.ptr 0 0) .nil)),[.fb wh,.loop 230003 [(5,(.ptr 2 0))] .ready .normal,.fb Z4,.cells .bool,.cells (.pair .bool .bool),.cells ja],0⟩
 a:=fun u=>((q3 u.2.1),u.t4.1,u.t5.1,u.t6.1)
 n:=fun a=>(((),((),())),((w3 a.1),(((),()),(((),((),((),()))),(w3 a.2)))))
 o:=fun Z a r K=>K (.Rc []) ⟨[.fb [.lit .bool a.1.1,.lit (.pair .bool .bool) a.1.2.1,.lit ja a.1.2.2],.loop 230003 [(5,.ptr 2 0)] .ready .normal,.fb [.all 3,.all 4,.all 6],.cells .bool r.1,.cells (.pair .bool .bool) r.2.1,.dead,.cells ja r.2.2],0⟩
def Bp:LD ((List Bool)×Int×Pa) (zO) (Y3) where
 sk:=⟨[(0,.v (.yl 1)),(1,.v (.ptr 0 0)),(12,.v (.lit .bool)),(13,.v (.int .i64)),(14,.v (.int .i64))],[],[.fb wh,.loop 230003 [(5,(.ptr 2 0))] .ready .normal,.fb X4,.cells .bool,.cells (.pair .bool .bool),.dead,.cells ja],0,6⟩
 p:=fun u=>(u.1.2.2.1,u.1.t3.1,(q3 u.2.2.1))
 t:=fun u=>(u.1.t4.1,u.t5.1,u.t6.1,u.t8.1)
 n:=fun p t=>(((),((),(p.1,(p.2.1,(t.1,()))))),((),((w3 p.2.2),(((),()),(((),((),((),()))),(t.2.1,(t.2.2.1,((),(t.t3,())))))))))
 st:=fun Y p t ki ke=>cond (decide (t.1<p.2.1))
  (ask (V.va t.1 (fa p.1)) (cond (gx p.1 (ga t.1) false)
  ((Ld (0,t.1,0,0,t.2.1,t.2.2.1,t.2.2.2)).bind fun r1=>
  Sum.elim (fun r2=>ki ((Ga (t.1+(1:Int))),r2.1,r2.2,t.2.2.2))
  (fun r3=>ki ((Ga (t.1+(1:Int))),t.2.1,t.2.2.1,r3)) r1)
  (ki ((Ga (t.1+(1:Int))),t.2.1,t.2.2.1,t.2.2.2))))
  (ke ((t.2.1,t.2.2.1,t.2.2.2)))
 o:=fun Z p e K=>K (.exit 0) ⟨[(0,.v (.yl 1)),(1,.v (.ptr 0 0))],[],⟨[.fb [.lit .bool p.2.2.1,.lit (.pair .bool .bool) p.t3.1,.lit ja p.t4],.loop 230003 [(5,.ptr 2 0)] .ready .normal,.fb [.all 3,.all 4,.all 6],.cells .bool e.1,.cells (.pair .bool .bool) e.2.1,.dead,.cells ja e.2.2],0⟩,6⟩
 Je:=⟨[0,1,12,13,14],[],[],[(2,[.any,.any,(.mv ja)])]⟩
 pe:=[(.exit 0,⟨[0,1],[],[],[]⟩)]
def Cj:LD (Int×(List (Bool×Bool))×Int×Int×(Bool×Bool)×Pa) (zO) (Y3) where
 sk:=⟨[(0,.v (.yl 1)),(1,.v (.ptr 0 0)),(5,.v (.int .i64)),(29,.v (.lit (.pair .bool .bool))),(30,.v (.int .i64)),(31,.v (.int .i64)),(36,.v (.agg (.cons .bool (.cons .bool .nil)))),(37,.v (.int .i64))],[],[.fb wh,.loop 230003 [(5,(.ptr 2 0))] .ready .normal,.fb X4,.cells .bool,.cells (.pair .bool .bool),.dead,.cells ja],0,6⟩
 p:=fun u=>(u.1.2.2.1,u.1.t3.1,u.1.t4.1,u.1.t5.1,(u.1.t6.1.1,u.1.t6.1.2.1),(q3 u.2.2.1))
 t:=fun u=>(u.1.t7.1,u.t5.1,u.t6.1,u.t8.1)
 n:=fun p t=>(((),((),(p.1,(p.2.1,(p.2.2.1,(p.t3.1,((p.t4.1.1,(p.t4.1.2,())),(t.1,())))))))),((),((w3 p.t5),(((),()),(((),((),((),()))),(t.2.1,(t.2.2.1,((),(t.t3,())))))))))
 st:=fun Y p t ki ke=>cond (decide (t.1<(2:Int)))
  (cond (decide (t.1=(0:Int)))
  (cond p.2.2.2.2.1.1
  ((Ld ((Ga ((1:Int)+t.1)),p.1,0,0,t.2.1,t.2.2.1,t.2.2.2)).bind fun r1=>
  Sum.elim (fun r2=>ki ((Ga (t.1+(1:Int))),r2.1,r2.2,t.2.2.2))
  (fun r3=>ki ((Ga (t.1+(1:Int))),t.2.1,t.2.2.1,r3)) r1)
  (ki ((Ga (t.1+(1:Int))),t.2.1,t.2.2.1,t.2.2.2)))
  (cond (decide (t.1=(1:Int)))
  (cond p.2.2.2.2.1.2
  ((Ld ((Ga ((1:Int)+t.1)),p.1,0,0,t.2.1,t.2.2.1,t.2.2.2)).bind fun r4=>
  Sum.elim (fun r5=>ki ((Ga (t.1+(1:Int))),r5.1,r5.2,t.2.2.2))
  (fun r6=>ki ((Ga (t.1+(1:Int))),t.2.1,t.2.2.1,r6)) r4)
  (ki ((Ga (t.1+(1:Int))),t.2.1,t.2.2.1,t.2.2.2)))
  (none)))
  (ke ((t.2.1,t.2.2.1,t.2.2.2)))
 o:=fun Z p e K=>K (.exit 4) ⟨[(0,.v (.yl 1)),(1,.v (.ptr 0 0)),(29,.v (.lit (.pair .bool .bool) p.2.1)),(30,.v (.int .i64 p.2.2.1)),(31,.v (.int .i64 p.t3.1))],[],⟨[.fb [.lit .bool p.t5.1,.lit (.pair .bool .bool) p.t6.1,.lit ja p.t7],.loop 230003 [(5,.ptr 2 0)] .ready .normal,.fb [.all 3,.all 4,.all 6],.cells .bool e.1,.cells (.pair .bool .bool) e.2.1,.dead,.cells ja e.2.2],0⟩,6⟩
 Je:=⟨[0,1,5,29,30,31,36,37],[],[],[]⟩
 pe:=[(.exit 4,⟨[0,1,29,30,31],[],[],[]⟩)]
def Ap:LD ((List (Bool×Bool))×Int×Pa) (zO) (Y3) where
 sk:=⟨[(0,.v (.yl 1)),(1,.v (.ptr 0 0)),(29,.v (.lit (.pair .bool .bool))),(30,.v (.int .i64)),(31,.v (.int .i64))],[],[.fb wh,.loop 230003 [(5,(.ptr 2 0))] .ready .normal,.fb X4,.cells .bool,.cells (.pair .bool .bool),.dead,.cells ja],0,6⟩
 p:=fun u=>(u.1.2.2.1,u.1.t3.1,(q3 u.2.2.1))
 t:=fun u=>(u.1.t4.1,u.t5.1,u.t6.1,u.t8.1)
 n:=fun p t=>(((),((),(p.1,(p.2.1,(t.1,()))))),((),((w3 p.2.2),(((),()),(((),((),((),()))),(t.2.1,(t.2.2.1,((),(t.t3,())))))))))
 st:=fun Y p t ki ke=>cond (decide (t.1<p.2.1))
  (ask (V.va t.1 (fa p.1)) ((Oa (Cj.m (t.1,p.1,p.2.1,t.1,(gx p.1 (ga t.1) (false,false)),p.2.2)) (0,t.2.1,t.2.2.1,t.2.2.2)).bind fun e1=>
  ki ((Ga (t.1+(1:Int))),e1.1,e1.2.1,e1.2.2)))
  (ke ((t.2.1,t.2.2.1,t.2.2.2)))
 o:=fun Z p e K=>K (.exit 2) ⟨[(0,.v (.yl 1)),(1,.v (.ptr 0 0))],[],⟨[.fb [.lit .bool p.2.2.1,.lit (.pair .bool .bool) p.t3.1,.lit ja p.t4],.loop 230003 [(5,.ptr 2 0)] .ready .normal,.fb [.all 3,.all 4,.all 6],.cells .bool e.1,.cells (.pair .bool .bool) e.2.1,.dead,.cells ja e.2.2],0⟩,6⟩
 Je:=⟨[0,1,29,30,31],[],[],[]⟩
 pe:=[(.exit 2,⟨[0,1],[],[],[]⟩)]
def Xk:LD ((List Ra)×Int×Pa) (zO) (Y3) where
 sk:=⟨[(0,.v (.yl 1)),(54,.v (.lit ja)),(55,.v (.int .i64)),(56,.v (.int .i64))],[],[.fb wh,.loop 230003 [(5,(.ptr 2 0))] .ready .normal,.fb X4,.cells .bool,.cells (.pair .bool .bool),.dead,.cells ja],0,6⟩
 p:=fun u=>(u.1.2.1,u.1.2.2.1,(q3 u.2.2.1))
 t:=fun u=>(u.1.t3.1,u.t5.1,u.t6.1,u.t8.1)
 n:=fun p t=>(((),(p.1,(p.2.1,(t.1,())))),((),((w3 p.2.2),(((),()),(((),((),((),()))),(t.2.1,(t.2.2.1,((),(t.t3,())))))))))
 st:=fun Y p t ki ke=>cond (decide (t.1<p.2.1))
  (ask (V.va t.1 (fa p.1)) ((Ld (3,0,(gx p.1 (ga t.1) Zb).1,(gx p.1 (ga t.1) Zb).2,t.2.1,t.2.2.1,t.2.2.2)).bind fun r1=>
  Sum.elim (fun r2=>ki ((Ga (t.1+(1:Int))),r2.1,r2.2,t.2.2.2))
  (fun r3=>ki ((Ga (t.1+(1:Int))),t.2.1,t.2.2.1,r3)) r1))
  (ke ((t.2.1,t.2.2.1,t.2.2.2)))
 o:=fun Z p e K=>K (.exit 6) ⟨[],[],⟨[.fb [.lit .bool p.2.2.1,.lit (.pair .bool .bool) p.t3.1,.lit ja p.t4],.loop 230003 [(5,.ptr 2 0)] .ready .normal,.fb [.all 3,.all 4,.all 6],.cells .bool e.1,.cells (.pair .bool .bool) e.2.1,.dead,.cells ja e.2.2],0⟩,6⟩
 Je:=⟨[0,54,55,56],[],[],[]⟩
 pe:=[(.exit 6,⟨[],[],[],[]⟩)]
def uN {X:Type} (a:Y29) (K:Y3->Option X):Option X:=
 (Oa (Bp.m (a.1.1,(nt (fa a.1.1)),a.1)) (0,a.2.1,a.2.2.1,a.2.2.2)).bind fun e1=>
 (Oa (Ap.m (a.1.2.1,(nt (fa a.1.2.1)),a.1)) (0,e1.1,e1.2.1,e1.2.2)).bind fun e2=>
 (Oa (Xk.m (a.1.2.2,(nt (fa a.1.2.2)),a.1)) (0,e2.1,e2.2.1,e2.2.2)).bind fun e3=>
 K (e3.1,e3.2.1,e3.2.2)
def pD:=fun a=>uN a some
def t_:Spec:=x6.sp pD
noncomputable def Du:Env:=⟨fun k=>[].contains k,ir [] [(230003,As)],fun X k s K=>if k=1 then Bp.q X s K else if k=9 then Cj.q X s K else if k=6 then Ap.q X s K else if k=15 then Xk.q X s K else none⟩
noncomputable def BW:Code:=Lb [0,1,0,0] (vb Tryz.f69)
theorem wQ (hc:Sa C Du.call):Va Du.loop (vc par C true [6,10] 66) (.loop BW):=
 lO hc Bp (by intros;simp only [Bp,LD.m,nn])
noncomputable def zW:Code:=Lb [1,0,1,0,0,1,1,0,0,1,1,0,0] (vb Tryz.f69)
theorem uQ (hc:Sa C Du.call):Va Du.loop (vc par C true [6,10] 66) (.loop zW):=
 lO hc Cj (by intros;simp only [Cj,LD.m,nn])
noncomputable def AW:Code:=Lb [1,0,1,0,0] (vb Tryz.f69)
theorem vQ (hc:Sa C Du.call):Va Du.loop (vc par C true [6,10] 66) (.loop AW):=
 lO hc Ap (by intros;simp only [Ap,LD.m,nn]) (hl:=(Yc (by kernel_rfl) (Db (uQ hc) Bc)))
noncomputable def xQ:Code:=Lb [1,1,1,0,0] (vb Tryz.f69)
theorem YK (hc:Sa C Du.call):Va Du.loop (vc par C true [6,10] 66) (.loop xQ):=
 lO hc Xk (by intros;simp only [Xk,LD.m,nn])
theorem u_:OK (5) 69 (x6.sp pD):=
 fO (d:=4) (env:=Du) (uj cn (ccy yz cyn)) (fn:=Tryz.f69) (mc:=@uN) (by intros;simp only [pD,uN,nn]) (za:=[6,10]) (hl:=fun hc=>(Yc (by kernel_rfl) (Db (wQ hc) (Db (vQ hc) (Db (YK hc) Bc)))))
def IX:FS (Y29) (Y3) where
 sk:=⟨(.cons (.agg (.cons (.all 0) (.cons (.all 1) (.cons (.all 2) .nil)))) (.cons (.agg wh) .nil)),[.cells .bool,.cells (.pair .bool .bool),.cells ja],0⟩
 a:=fun u=>((q3 u.1.2.1),u.2.1,u.2.2.1,u.t3.1)
 n:=fun a=>((((),((),((),()))),((w3 a.1),())),(w3 a.2))
 o:=fun Z a r K=>K (.agg [.all 3,.all 4,.all 5]) ⟨[.cells .bool a.2.1,.cells (.pair .bool .bool) a.2.2.1,.cells ja a.t3,.cells .bool r.1,.cells (.pair .bool .bool) r.2.1,.cells ja r.2.2],0⟩
def PA:PD (Pa×(List Bool)×(List (Bool×Bool))×(List Ra)×Pa) (Y3) where
 sk:=⟨[(4,.v (.ptr 3 0)),(5,.v (.ptr 4 0)),(18,.v (.fn 69 (.cons (.ptr 8 0) .nil)))],[],[.cells .bool,.cells (.pair .bool .bool),.cells ja,.fb (.cons .Wa (.cons .Wa (.cons .Wa .nil))),.fb (.cons (.all 5) (.cons (.all 6) (.cons (.all 7) .nil))),.cells .bool,.cells (.pair .bool .bool),.cells ja,.fb wh],0,3⟩
 p:=fun u=>((q3 u.2.2),u.t7.1,u.t8.1,u.t9.1,(q3 u.t10.1))
 n:=fun p=>(((),((),(((),()),()))),((),(p.1.1,(p.1.2.1,(p.1.2.2,(((),((),((),()))),(((),((),((),()))),(p.2.1,(p.2.2.1,(p.t3.1,((w3 p.t4),())))))))))))
 st:=fun Y p ke=>(pD (p.2.2.2.2,p.2.1,p.2.2.1,p.2.2.2.1)).bind fun r1=>
  ke ((r1.1,r1.2.1,r1.2.2))
 o:=fun Z p e K=>K .normal ⟨[(4,.v (.ptr 3 0)),(5,.v (.ptr 4 0))],[],⟨[.cells .bool p.1.1,.cells (.pair .bool .bool) p.1.2.1,.cells ja p.1.2.2,.fb [.Wa,.Wa,.Wa],.fb [.all 5,.all 6,.all 7],.cells .bool e.1,.cells (.pair .bool .bool) e.2.1,.cells ja e.2.2],0⟩,3⟩
 Je:=⟨[4,5,18],[],[],[]⟩
 pe:=[(.normal,⟨[4,5],[],[],[]⟩)]
def aO {X:Type} (a:Y29) (K:Y3->Option X):Option X:=
 (IN a.2.1).bind fun r1=>
 (HN a.2.2.1).bind fun r2=>
 (GN a.2.2.2).bind fun r3=>
 (PA.m (a.2,r1,r2,r3,a.1)).bind fun e4=>
 (tD e4.2.2).bind fun r5=>
 K (e4.1,e4.2.1,r5)
def Sr:=fun a=>aO a some
def wL:Spec:=IX.sp Sr
noncomputable def ZN:Env:=⟨fun k=>[].contains k,Cb [(47,kL),(48,jL),(49,iL),(43,dX),(69,t_),(51,dL)],fun X k s K=>if k=3 then PA.q X s K else none⟩
theorem fR (hc:Sa C ZN.call):Va ZN.loop (vc par C true [] 63) (.rangeFunc (rfG (Lb [1,1,0,1,0] (vb Tryz.f23))) (bP (Lb [1,1,0,1,0] (vb Tryz.f23))) (rfA (Lb [1,1,0,1,0] (vb Tryz.f23))) (rfB (Lb [1,1,0,1,0] (vb Tryz.f23)))):=
 rO (env:=ZN) hc (id:=230003) (ks:=[5]) PA (by intros;simp only [PA,PD.m,nn])
theorem xL:OK (6) 23 (IX.sp Sr):=
 fO (d:=5) (env:=ZN) (Aa (cc XW (cc WW (cc VW (cc gX (cc u_ (cc UW cn))))))) (fn:=Tryz.f23) (mc:=@aO) (by intros;simp only [Sr,aO,nn]) (sh:=(.agg [(.own .bool),(.own (.pair .bool .bool)),(.own ja)])) (hl:=fun hc=>(Yc (by kernel_rfl) (Db (fR hc) Bc)))
def bY:FS (Y31) (Y3) where
 sk:=⟨(.cons (.agg tc) (.cons (.lit (.slice (.int .i64))) (.cons (.int .i64) .nil))),[],0⟩
 a:=fun u=>((q8 u.1.1),u.1.2.1,u.1.2.2.1)
 n:=fun a=>(((w8 a.1),(a.2.1,(a.2.2,()))),())
 o:=fun Z a r K=>K (.agg [.all 0,.all 1,.all 2]) ⟨[.cells .bool r.1,.cells (.pair .bool .bool) r.2.1,.cells ja r.2.2],0⟩
def Sp:LD (Int×(List (List Int))×Int×Ba) (zO) (Y3) where
 sk:=⟨[(2,.v (.int .i64)),(3,.loc 0 0),(6,.loc 1 0),(7,.loc 2 0),(15,.v (.lit (.slice (.int .i64)))),(16,.v (.int .i64)),(17,.v (.int .i64))],[tc,(.cons .Wa (.cons .Wa (.cons .Wa .nil))),(.cons (.all 0) (.cons (.all 1) (.cons (.all 2) .nil)))],[.cells .bool,.cells (.pair .bool .bool),.cells ja],0,0⟩
 p:=fun u=>(u.1.1,u.1.2.1,u.1.2.2.1,(q8 u.2.1.1))
 t:=fun u=>(u.1.t3.1,u.2.2.1,u.t3.1,u.t4.1)
 n:=fun p t=>((p.1,(p.2.1,(p.2.2.1,(t.1,())))),(((w8 p.t3),(((),((),((),()))),(((),((),((),()))),()))),(w3 t.2)))
 st:=fun Y p t ki ke=>cond (decide (t.1<p.2.2.1))
  (ask (V.va t.1 (fa p.2.1)) ((Lx (p.2.2.2,(gx p.2.1 (ga t.1) []),p.1)).bind fun r1=>
  (Sr (r1.1,t.2.1,t.2.2.1,t.2.2.2)).bind fun r2=>
  ki ((Ga (t.1+(1:Int))),r2.1,r2.2.1,r2.2.2)))
  (ke ((t.2.1,t.2.2.1,t.2.2.2)))
 o:=fun Z p e K=>K (.exit 0) ⟨[(6,.loc 0 0),(7,.loc 1 0)],[[.Wa,.Wa,.Wa],[.all 0,.all 1,.all 2]],⟨[.cells .bool e.1,.cells (.pair .bool .bool) e.2.1,.cells ja e.2.2],0⟩,0⟩
 Je:=⟨[2,3,6,7,15,16,17],[],[],[]⟩
 pe:=[(.exit 0,⟨[6,7],[],[],[]⟩)]
def mO {X:Type} (a:Y31) (K:Y3->Option X):Option X:=
 (Tr a.1).bind fun r1=>
 (Oa (Sp.m (a.2.2,a.2.1,(nt (fa a.2.1)),a.1)) (0,r1.1,r1.2.1,r1.2.2)).bind fun e2=>
 K (e2.1,e2.2.1,e2.2.2)
def jo:=fun a=>mO a some
def aY:Spec:=bY.sp jo
noncomputable def gY:Env:=⟨fun k=>[].contains k,Cb [(14,YF),(37,mL),(23,wL)],fun X k s K=>if k=3 then Sp.q X s K else none⟩
noncomputable def eY:Code:=Lb [1,1,0,1,0,0] (vb Tryz.f12)
theorem xR (hc:Sa C gY.call):Va gY.loop (vc par C true [3,6,7,10,11] 34) (.loop eY):=
 lO hc Sp (by intros;simp only [Sp,LD.m,nn])
theorem dY:OK (7) 12 (bY.sp jo):=
 fO (d:=6) (env:=gY) (Aa (cc ZF (cc nL (cc xL cn)))) (fn:=Tryz.f12) (mc:=@mO) (by intros;simp only [jo,mO,nn]) (za:=[3,6,7,10,11]) (sh:=(.agg [(.own .bool),(.own (.pair .bool .bool)),(.own ja)])) (hl:=fun hc=>(Yc (by kernel_rfl) (Db (xR hc) Bc)))
def MN:FS (Y3) (Unit) where
 sk:=⟨(.cons (.agg (.cons (.all 0) (.cons (.all 1) (.cons (.all 2) .nil)))) .nil),[.cells .bool,.cells (.pair .bool .bool),.cells ja],0⟩
 a:=fun u=>(u.2.1,u.2.2.1,u.t3.1)
 n:=fun a=>((((),((),((),()))),()),(w3 a))
 o:=fun Z a r K=>K (.fn 69 [.ptr 3 0]) ⟨[.cells .bool a.1,.cells (.pair .bool .bool) a.2.1,.cells ja a.2.2,.fb [.all 0,.all 1,.all 2]],0⟩
def SF {X:Type} (a:Y3) (K:Unit->Option X):Option X:=
 K ()
def QF:=fun a=>SF a some
def BI:Spec:=MN.sp QF
noncomputable def I3:Env:=⟨fun k=>[].contains k,Cb [],fun X k s K=>none⟩
theorem DI:OK (1) 43 (MN.sp QF):=
 fO (d:=0) (env:=I3) (Aa cn) (fn:=Tryz.f43) (mc:=@SF) (by intros;simp only [QF,SF,nn])
def NO:FS (Int×Int×Int×Int×Int) (Int) where
 sk:=⟨(.cons (.yl 0) (.cons (.agg jA) .nil)),[.loop 180000 [(3,(.ptr 1 0))] .ready .normal,.fb (.cons (.int .i64) .nil)],0⟩
 a:=fun u=>(u.1.2.1.1,u.1.2.1.2.1,u.1.2.1.2.2.1,u.1.2.1.t3.1,u.2.2.1.1)
 n:=fun a=>(((),((a.1,(a.2.1,(a.2.2.1,(a.t3.1,())))),())),(((),()),((a.t4,()),())))
 o:=fun Z a r K=>K (.bool true) ⟨[.loop 180000 [(3,.ptr 1 0)] .ready .normal,.fb [.int .i64 r]],0⟩
def Li {X:Type} (a:Int×Int×Int×Int×Int) (K:Int->Option X):Option X:=
 K (Ga (a.2.2.2.2+(1:Int)))
def mg:=fun a=>Li a some
def zz:Spec:=NO.sp mg
noncomputable def OO:Env:=⟨fun k=>[].contains k,Cb [],fun X k s K=>none⟩
theorem tJ:OKY (1) zz:=
 EZ (d:=0) (env:=OO) (Aa cn) (id:=180000) (r:=rfT 180000) rfl (fun hc=>(Yc (by kernel_rfl) Bc)) (fun hc=>(Yc (by kernel_rfl) Bc)) (mc:=fun X a K=>Li a K) (fun _ _ _=>by kernel_rfl) (by intros;simp only [mg,Li,nn]) (fun _=>rfl)
def tN:FS (Y32) (Int) where
 sk:=⟨(.cons (.yl 4) (.cons (.ptr 0 0) .nil)),[.fb eZ,.cells .bool,.cells (.pair .bool .bool),.cells ja,.loop 180000 [(3,(.ptr 5 0))] .ready .normal,.fb (.cons (.int .i64) .nil)],0⟩
 a:=fun u=>(u.2.2.1,u.t3.1,u.t4.1,u.t6.1.1)
 n:=fun a=>(((),((),())),(((),((),((),()))),(a.1,(a.2.1,(a.2.2.1,(((),()),((a.t3,()),())))))))
 o:=fun Z a r K=>K (.Rc []) ⟨[.fb [.all 1,.all 2,.all 3],.cells .bool a.1,.cells (.pair .bool .bool) a.2.1,.cells ja a.2.2.1,.loop 180000 [(3,.ptr 5 0)] .ready .normal,.fb [.int .i64 r]],0⟩
def qi:LD (zO) (Int×Int) (Int) where
 sk:=⟨[(0,.v (.yl 4)),(1,.v (.ptr 0 0)),(12,.v (.all 1)),(13,.v (.int .i64)),(14,.v (.int .i64))],[],[.fb eZ,.cells .bool,.cells (.pair .bool .bool),.cells ja,.loop 180000 [(3,(.ptr 5 0))] .ready .normal,.fb (.cons (.int .i64) .nil)],0,6⟩
 p:=fun u=>(u.1.t3.1,u.t3.1,u.t4.1,u.t5.1)
 t:=fun u=>(u.1.t4.1,u.t7.1.1)
 n:=fun p t=>(((),((),((),(p.1,(t.1,()))))),((),(((),((),((),()))),(p.2.1,(p.2.2.1,(p.t3,(((),()),((t.2,()),()))))))))
 st:=fun Y p t ki ke=>cond (decide (t.1<p.1))
  (ask (V.va t.1 (fa p.2.1)) (cond (gx p.2.1 (ga t.1) false)
  ((mg (0,t.1,0,0,t.2)).bind fun r1=>
  ki ((Ga (t.1+(1:Int))),r1))
  (ki ((Ga (t.1+(1:Int))),t.2))))
  (ke (t.2))
 o:=fun Z p e K=>K (.exit 0) ⟨[(0,.v (.yl 4)),(1,.v (.ptr 0 0))],[],⟨[.fb [.all 1,.all 2,.all 3],.cells .bool p.2.1,.cells (.pair .bool .bool) p.2.2.1,.cells ja p.t3,.loop 180000 [(3,.ptr 5 0)] .ready .normal,.fb [.int .i64 e]],0⟩,6⟩
 Je:=⟨[0,1,12,13,14],[],[],[]⟩
 pe:=[(.exit 0,⟨[0,1],[],[],[]⟩)]
def Lf:LD (Y33) (Int×Int) (Int) where
 sk:=⟨[(0,.v (.yl 4)),(1,.v (.ptr 0 0)),(5,.v (.int .i64)),(29,.v (.all 2)),(30,.v (.int .i64)),(31,.v (.int .i64)),(36,.v (.agg (.cons .bool (.cons .bool .nil)))),(37,.v (.int .i64))],[],[.fb eZ,.cells .bool,.cells (.pair .bool .bool),.cells ja,.loop 180000 [(3,(.ptr 5 0))] .ready .normal,.fb (.cons (.int .i64) .nil)],0,6⟩
 p:=fun u=>(u.1.2.2.1,u.1.t4.1,u.1.t5.1,(u.1.t6.1.1,u.1.t6.1.2.1),(q3 u.t3))
 t:=fun u=>(u.1.t7.1,u.t7.1.1)
 n:=fun p t=>(((),((),(p.1,((),(p.2.1,(p.2.2.1,((p.t3.1.1,(p.t3.1.2,())),(t.1,())))))))),((),(((),((),((),()))),(p.t4.1,(p.t5.1,(p.t6,(((),()),((t.2,()),()))))))))
 st:=fun Y p t ki ke=>cond (decide (t.1<(2:Int)))
  (cond (decide (t.1=(0:Int)))
  (cond p.2.2.2.1.1
  ((mg ((Ga ((1:Int)+t.1)),p.1,0,0,t.2)).bind fun r1=>
  ki ((Ga (t.1+(1:Int))),r1))
  (ki ((Ga (t.1+(1:Int))),t.2)))
  (cond (decide (t.1=(1:Int)))
  (cond p.2.2.2.1.2
  ((mg ((Ga ((1:Int)+t.1)),p.1,0,0,t.2)).bind fun r2=>
  ki ((Ga (t.1+(1:Int))),r2))
  (ki ((Ga (t.1+(1:Int))),t.2)))
  (none)))
  (ke (t.2))
 o:=fun Z p e K=>K (.exit 4) ⟨[(0,.v (.yl 4)),(1,.v (.ptr 0 0)),(29,.v (.all 2)),(30,.v (.int .i64 p.2.1)),(31,.v (.int .i64 p.2.2.1))],[],⟨[.fb [.all 1,.all 2,.all 3],.cells .bool p.t4.1,.cells (.pair .bool .bool) p.t5.1,.cells ja p.t6,.loop 180000 [(3,.ptr 5 0)] .ready .normal,.fb [.int .i64 e]],0⟩,6⟩
 Je:=⟨[0,1,5,29,30,31,36,37],[],[],[]⟩
 pe:=[(.exit 4,⟨[0,1,29,30,31],[],[],[]⟩)]
def sj:LD (zO) (Int×Int) (Int) where
 sk:=⟨[(0,.v (.yl 4)),(1,.v (.ptr 0 0)),(29,.v (.all 2)),(30,.v (.int .i64)),(31,.v (.int .i64))],[],[.fb eZ,.cells .bool,.cells (.pair .bool .bool),.cells ja,.loop 180000 [(3,(.ptr 5 0))] .ready .normal,.fb (.cons (.int .i64) .nil)],0,6⟩
 p:=fun u=>(u.1.t3.1,u.t3.1,u.t4.1,u.t5.1)
 t:=fun u=>(u.1.t4.1,u.t7.1.1)
 n:=fun p t=>(((),((),((),(p.1,(t.1,()))))),((),(((),((),((),()))),(p.2.1,(p.2.2.1,(p.t3,(((),()),((t.2,()),()))))))))
 st:=fun Y p t ki ke=>cond (decide (t.1<p.1))
  (ask (V.va t.1 (fa p.2.2.1)) ((Oa (Lf.m (t.1,p.1,t.1,(gx p.2.2.1 (ga t.1) (false,false)),p.2)) (0,t.2)).bind fun e1=>
  ki ((Ga (t.1+(1:Int))),e1)))
  (ke (t.2))
 o:=fun Z p e K=>K (.exit 2) ⟨[(0,.v (.yl 4)),(1,.v (.ptr 0 0))],[],⟨[.fb [.all 1,.all 2,.all 3],.cells .bool p.2.1,.cells (.pair .bool .bool) p.2.2.1,.cells ja p.t3,.loop 180000 [(3,.ptr 5 0)] .ready .normal,.fb [.int .i64 e]],0⟩,6⟩
 Je:=⟨[0,1,29,30,31],[],[],[]⟩
 pe:=[(.exit 2,⟨[0,1],[],[],[]⟩)]
def Mh:LD (zO) (Int×Int) (Int) where
 sk:=⟨[(0,.v (.yl 4)),(54,.v (.all 3)),(55,.v (.int .i64)),(56,.v (.int .i64))],[],[.fb eZ,.cells .bool,.cells (.pair .bool .bool),.cells ja,.loop 180000 [(3,(.ptr 5 0))] .ready .normal,.fb (.cons (.int .i64) .nil)],0,6⟩
 p:=fun u=>(u.1.2.2.1,u.t3.1,u.t4.1,u.t5.1)
 t:=fun u=>(u.1.t3.1,u.t7.1.1)
 n:=fun p t=>(((),((),(p.1,(t.1,())))),((),(((),((),((),()))),(p.2.1,(p.2.2.1,(p.t3,(((),()),((t.2,()),()))))))))
 st:=fun Y p t ki ke=>cond (decide (t.1<p.1))
  (ask (V.va t.1 (fa p.2.2.2)) ((mg (3,0,(gx p.2.2.2 (ga t.1) Zb).1,(gx p.2.2.2 (ga t.1) Zb).2,t.2)).bind fun r1=>
  ki ((Ga (t.1+(1:Int))),r1)))
  (ke (t.2))
 o:=fun Z p e K=>K (.exit 6) ⟨[],[],⟨[.fb [.all 1,.all 2,.all 3],.cells .bool p.2.1,.cells (.pair .bool .bool) p.2.2.1,.cells ja p.t3,.loop 180000 [(3,.ptr 5 0)] .ready .normal,.fb [.int .i64 e]],0⟩,6⟩
 Je:=⟨[0,54,55,56],[],[],[]⟩
 pe:=[(.exit 6,⟨[],[],[],[]⟩)]
def dz {X:Type} (a:Y32) (K:Int->Option X):Option X:=
 (Oa (qi.m ((nt (fa a.1)),a.1,a.2.1,a.2.2.1)) (0,a.2.2.2)).bind fun e1=>
 (Oa (sj.m ((nt (fa a.2.1)),a.1,a.2.1,a.2.2.1)) (0,e1)).bind fun e2=>
 (Oa (Mh.m ((nt (fa a.2.2.1)),a.1,a.2.1,a.2.2.1)) (0,e2)).bind fun e3=>
 K e3
def Vq:=fun a=>dz a some
def uW:Spec:=tN.sp Vq
noncomputable def Yj:Env:=⟨fun k=>[].contains k,ir [] [(180000,zz)],fun X k s K=>if k=1 then qi.q X s K else if k=9 then Lf.q X s K else if k=6 then sj.q X s K else if k=15 then Mh.q X s K else none⟩
noncomputable def XK:Code:=Lb [0,1,0,0] (vb Tryz.f69)
theorem vI (hc:Sa C Yj.call):Va Yj.loop (vc par C true [6,10] 66) (.loop XK):=
 lO hc qi (by intros;simp only [qi,LD.m,nn])
noncomputable def VK:Code:=Lb [1,0,1,0,0,1,1,0,0,1,1,0,0] (vb Tryz.f69)
theorem tI (hc:Sa C Yj.call):Va Yj.loop (vc par C true [6,10] 66) (.loop VK):=
 lO hc Lf (by intros;simp only [Lf,LD.m,nn])
noncomputable def WK:Code:=Lb [1,0,1,0,0] (vb Tryz.f69)
theorem uI (hc:Sa C Yj.call):Va Yj.loop (vc par C true [6,10] 66) (.loop WK):=
 lO hc sj (by intros;simp only [sj,LD.m,nn]) (hl:=(Yc (by kernel_rfl) (Db (tI hc) Bc)))
noncomputable def wI:Code:=Lb [1,1,1,0,0] (vb Tryz.f69)
theorem KF (hc:Sa C Yj.call):Va Yj.loop (vc par C true [6,10] 66) (.loop wI):=
 lO hc Mh (by intros;simp only [Mh,LD.m,nn])
theorem vW:OK (2) 69 (tN.sp Vq):=
 fO (d:=1) (env:=Yj) (uj cn (ccy tJ cyn)) (fn:=Tryz.f69) (mc:=@dz) (by intros;simp only [Vq,dz,nn]) (za:=[6,10]) (hl:=fun hc=>(Yc (by kernel_rfl) (Db (vI hc) (Db (uI hc) (Db (KF hc) Bc)))))
def C7:FS (Y3) (Int) where
 sk:=⟨(.cons (.agg (.cons (.all 0) (.cons (.all 1) (.cons (.all 2) .nil)))) .nil),[.cells .bool,.cells (.pair .bool .bool),.cells ja],0⟩
 a:=fun u=>(u.2.1,u.2.2.1,u.t3.1)
 n:=fun a=>((((),((),((),()))),()),(w3 a))
 o:=fun Z a r K=>K (.int .i64 r) ⟨[.cells .bool a.1,.cells (.pair .bool .bool) a.2.1,.cells ja a.2.2],0⟩
def QA:PD (Pa×Int) (Int) where
 sk:=⟨[(3,.v (.ptr 3 0)),(5,.v (.fn 69 (.cons (.ptr 4 0) .nil)))],[],[.cells .bool,.cells (.pair .bool .bool),.cells ja,.fb (.cons (.int .i64) .nil),.fb (.cons (.all 0) (.cons (.all 1) (.cons (.all 2) .nil)))],0,3⟩
 p:=fun u=>((q3 u.2.2),u.t5.1.1)
 n:=fun p=>(((),(((),()),())),((),(p.1.1,(p.1.2.1,(p.1.2.2,((p.2,()),(((),((),((),()))),())))))))
 st:=fun Y p ke=>(Vq (p.1.1,p.1.2.1,p.1.2.2,p.2)).bind fun r1=>
  ke (r1)
 o:=fun Z p e K=>K .normal ⟨[(3,.v (.ptr 3 0))],[],⟨[.cells .bool p.1.1,.cells (.pair .bool .bool) p.1.2.1,.cells ja p.1.2.2,.fb [.int .i64 e]],0⟩,3⟩
 Je:=⟨[3,5],[],[],[]⟩
 pe:=[(.normal,⟨[3],[],[],[]⟩)]
def eO {X:Type} (a:Y3) (K:Int->Option X):Option X:=
 (QA.m (a,0)).bind fun e1=>
 K e1
def Rp:=fun a=>eO a some
def QX:Spec:=C7.sp Rp
noncomputable def dO:Env:=⟨fun k=>[].contains k,Cb [(43,BI),(69,uW)],fun X k s K=>if k=0 then QA.q X s K else none⟩
theorem rR (hc:Sa C dO.call):Va dO.loop (vc par C true [] 10) (.rangeFunc (rfG (Lb [1,1,0,1,0] (vb Tryz.f18))) (bP (Lb [1,1,0,1,0] (vb Tryz.f18))) (rfA (Lb [1,1,0,1,0] (vb Tryz.f18))) (rfB (Lb [1,1,0,1,0] (vb Tryz.f18)))):=
 rO (env:=dO) hc (id:=180000) (ks:=[3]) QA (by intros;simp only [QA,PD.m,nn])
theorem RX:OK (3) 18 (C7.sp Rp):=
 fO (d:=2) (env:=dO) (Aa (cc DI (cc vW cn))) (fn:=Tryz.f18) (mc:=@eO) (by intros;simp only [Rp,eO,nn]) (hl:=fun hc=>(Yc (by kernel_rfl) (Db (rR hc) Bc)))
def GO:FS (Int×Int×Int×Int×(List Bool)×(List (Bool×Bool))×(List Ra)×Int) (Int) where
 sk:=⟨(.cons (.yl 0) (.cons (.agg jA) .nil)),[.loop 440003 [(3,(.ptr 1 0)),(5,(.ptr 5 0))] .ready .normal,.fb K8,.cells .bool,.cells (.pair .bool .bool),.cells ja,.fb (.cons (.int .i64) .nil)],0⟩
 a:=fun u=>(u.1.2.1.1,u.1.2.1.2.1,u.1.2.1.2.2.1,u.1.2.1.t3.1,u.t3.1,u.t4.1,u.t5.1,u.t6.1.1)
 n:=fun a=>(((),((a.1,(a.2.1,(a.2.2.1,(a.t3.1,())))),())),(((),((),())),(((),((),((),()))),(a.t4.1,(a.t5.1,(a.t6.1,((a.t7,()),())))))))
 o:=fun Z a r K=>K (.bool true) ⟨[.loop 440003 [(3,.ptr 1 0),(5,.ptr 5 0)] .ready .normal,.fb [.all 2,.all 3,.all 4],.cells .bool a.t4.1,.cells (.pair .bool .bool) a.t5.1,.cells ja a.t6.1,.fb [.int .i64 r]],0⟩
def wv {X:Type} (a:Int×Int×Int×Int×(List Bool)×(List (Bool×Bool))×(List Ra)×Int) (K:Int->Option X):Option X:=
 (Kg ((a.1,(a.2.1,(a.2.2.1,a.2.2.2.1))),a.2.2.2.2.1,a.2.2.2.2.2.1,a.2.2.2.2.2.2.1)).bind fun r1=>
 cond (!r1)
 (K (Ga (a.2.2.2.2.2.2.2+(1:Int))))
 (K a.2.2.2.2.2.2.2)
def Dh:=fun a=>wv a some
def wz:Spec:=GO.sp Dh
noncomputable def HO:Env:=⟨fun k=>[].contains k,Cb [(50,eL)],fun X k s K=>none⟩
theorem rJ:OKY (4) wz:=
 EZ (d:=3) (env:=HO) (Aa (cc gL cn)) (id:=440003) (r:=rfT 440003) rfl (fun hc=>(Yc (by kernel_rfl) Bc)) (fun hc=>(Yc (by kernel_rfl) Bc)) (mc:=fun X a K=>wv a K) (fun _ _ _=>by kernel_rfl) (by intros;simp only [Dh,wv,nn]) (fun _=>rfl)
def sN:FS (Y34) (Int) where
 sk:=⟨(.cons (.yl 1) (.cons (.ptr 0 0) .nil)),[.fb wh,.loop 440003 [(3,(.ptr 2 0)),(5,(.ptr 6 0))] .ready .normal,.fb Z4,.cells .bool,.cells (.pair .bool .bool),.cells ja,.fb (.cons (.int .i64) .nil)],0⟩
 a:=fun u=>((q3 u.2.1),u.t4.1,u.t5.1,u.t6.1,u.t7.1.1)
 n:=fun a=>(((),((),())),((w3 a.1),(((),((),())),(((),((),((),()))),(a.2.1,(a.2.2.1,(a.t3.1,((a.t4,()),()))))))))
 o:=fun Z a r K=>K (.Rc []) ⟨[.fb [.lit .bool a.1.1,.lit (.pair .bool .bool) a.1.2.1,.lit ja a.1.2.2],.loop 440003 [(3,.ptr 2 0),(5,.ptr 6 0)] .ready .normal,.fb [.all 3,.all 4,.all 5],.cells .bool a.2.1,.cells (.pair .bool .bool) a.2.2.1,.cells ja a.t3.1,.fb [.int .i64 r]],0⟩
def ni:LD ((List Bool)×Int×Pa×(List Bool)×(List (Bool×Bool))×(List Ra)) (Int×Int) (Int) where
 sk:=⟨[(0,.v (.yl 1)),(1,.v (.ptr 0 0)),(12,.v (.lit .bool)),(13,.v (.int .i64)),(14,.v (.int .i64))],[],[.fb wh,.loop 440003 [(3,(.ptr 2 0)),(5,(.ptr 6 0))] .ready .normal,.fb Z4,.cells .bool,.cells (.pair .bool .bool),.cells ja,.fb (.cons (.int .i64) .nil)],0,7⟩
 p:=fun u=>(u.1.2.2.1,u.1.t3.1,(q3 u.2.2.1),u.t5.1,u.t6.1,u.t7.1)
 t:=fun u=>(u.1.t4.1,u.t8.1.1)
 n:=fun p t=>(((),((),(p.1,(p.2.1,(t.1,()))))),((),((w3 p.2.2.1),(((),((),())),(((),((),((),()))),(p.t3.1,(p.t4.1,(p.t5,((t.2,()),())))))))))
 st:=fun Y p t ki ke=>cond (decide (t.1<p.2.1))
  (ask (V.va t.1 (fa p.1)) (cond (gx p.1 (ga t.1) false)
  ((Dh (0,t.1,0,0,p.2.2.2.1,p.2.2.2.2.1,p.2.2.2.2.2,t.2)).bind fun r1=>
  ki ((Ga (t.1+(1:Int))),r1))
  (ki ((Ga (t.1+(1:Int))),t.2))))
  (ke (t.2))
 o:=fun Z p e K=>K (.exit 0) ⟨[(0,.v (.yl 1)),(1,.v (.ptr 0 0))],[],⟨[.fb [.lit .bool p.2.2.1.1,.lit (.pair .bool .bool) p.2.2.1.2.1,.lit ja p.2.2.1.2.2],.loop 440003 [(3,.ptr 2 0),(5,.ptr 6 0)] .ready .normal,.fb [.all 3,.all 4,.all 5],.cells .bool p.t3.1,.cells (.pair .bool .bool) p.t4.1,.cells ja p.t5,.fb [.int .i64 e]],0⟩,7⟩
 Je:=⟨[0,1,12,13,14],[],[],[]⟩
 pe:=[(.exit 0,⟨[0,1],[],[],[]⟩)]
def Kf:LD (Int×(List (Bool×Bool))×Int×Int×(Bool×Bool)×(Pa×Pa)) (Int×Int) (Int) where
 sk:=⟨[(0,.v (.yl 1)),(1,.v (.ptr 0 0)),(5,.v (.int .i64)),(29,.v (.lit (.pair .bool .bool))),(30,.v (.int .i64)),(31,.v (.int .i64)),(36,.v (.agg (.cons .bool (.cons .bool .nil)))),(37,.v (.int .i64))],[],[.fb wh,.loop 440003 [(3,(.ptr 2 0)),(5,(.ptr 6 0))] .ready .normal,.fb Z4,.cells .bool,.cells (.pair .bool .bool),.cells ja,.fb (.cons (.int .i64) .nil)],0,7⟩
 p:=fun u=>(u.1.2.2.1,u.1.t3.1,u.1.t4.1,u.1.t5.1,(u.1.t6.1.1,u.1.t6.1.2.1),((q3 u.2.2.1),(q3 u.t5)))
 t:=fun u=>(u.1.t7.1,u.t8.1.1)
 n:=fun p t=>(((),((),(p.1,(p.2.1,(p.2.2.1,(p.t3.1,((p.t4.1.1,(p.t4.1.2,())),(t.1,())))))))),((),((w3 p.t5.1),(((),((),())),(((),((),((),()))),(p.t6.1,(p.t7.1,(p.t8,((t.2,()),())))))))))
 st:=fun Y p t ki ke=>cond (decide (t.1<(2:Int)))
  (cond (decide (t.1=(0:Int)))
  (cond p.2.2.2.2.1.1
  ((Dh ((Ga ((1:Int)+t.1)),p.1,0,0,p.2.2.2.2.2.2.1,p.2.2.2.2.2.2.2.1,p.2.2.2.2.2.2.2.2,t.2)).bind fun r1=>
  ki ((Ga (t.1+(1:Int))),r1))
  (ki ((Ga (t.1+(1:Int))),t.2)))
  (cond (decide (t.1=(1:Int)))
  (cond p.2.2.2.2.1.2
  ((Dh ((Ga ((1:Int)+t.1)),p.1,0,0,p.2.2.2.2.2.2.1,p.2.2.2.2.2.2.2.1,p.2.2.2.2.2.2.2.2,t.2)).bind fun r2=>
  ki ((Ga (t.1+(1:Int))),r2))
  (ki ((Ga (t.1+(1:Int))),t.2)))
  (none)))
  (ke (t.2))
 o:=fun Z p e K=>K (.exit 4) ⟨[(0,.v (.yl 1)),(1,.v (.ptr 0 0)),(29,.v (.lit (.pair .bool .bool) p.2.1)),(30,.v (.int .i64 p.2.2.1)),(31,.v (.int .i64 p.t3.1))],[],⟨[.fb [.lit .bool p.t5.1.1,.lit (.pair .bool .bool) p.t5.1.2.1,.lit ja p.t5.1.2.2],.loop 440003 [(3,.ptr 2 0),(5,.ptr 6 0)] .ready .normal,.fb [.all 3,.all 4,.all 5],.cells .bool p.t6.1,.cells (.pair .bool .bool) p.t7.1,.cells ja p.t8,.fb [.int .i64 e]],0⟩,7⟩
 Je:=⟨[0,1,5,29,30,31,36,37],[],[],[]⟩
 pe:=[(.exit 4,⟨[0,1,29,30,31],[],[],[]⟩)]
def rj:LD ((List (Bool×Bool))×Int×Pa×(List Bool)×(List (Bool×Bool))×(List Ra)) (Int×Int) (Int) where
 sk:=⟨[(0,.v (.yl 1)),(1,.v (.ptr 0 0)),(29,.v (.lit (.pair .bool .bool))),(30,.v (.int .i64)),(31,.v (.int .i64))],[],[.fb wh,.loop 440003 [(3,(.ptr 2 0)),(5,(.ptr 6 0))] .ready .normal,.fb Z4,.cells .bool,.cells (.pair .bool .bool),.cells ja,.fb (.cons (.int .i64) .nil)],0,7⟩
 p:=fun u=>(u.1.2.2.1,u.1.t3.1,(q3 u.2.2.1),u.t5.1,u.t6.1,u.t7.1)
 t:=fun u=>(u.1.t4.1,u.t8.1.1)
 n:=fun p t=>(((),((),(p.1,(p.2.1,(t.1,()))))),((),((w3 p.2.2.1),(((),((),())),(((),((),((),()))),(p.t3.1,(p.t4.1,(p.t5,((t.2,()),())))))))))
 st:=fun Y p t ki ke=>cond (decide (t.1<p.2.1))
  (ask (V.va t.1 (fa p.1)) ((Oa (Kf.m (t.1,p.1,p.2.1,t.1,(gx p.1 (ga t.1) (false,false)),p.2.2)) (0,t.2)).bind fun e1=>
  ki ((Ga (t.1+(1:Int))),e1)))
  (ke (t.2))
 o:=fun Z p e K=>K (.exit 2) ⟨[(0,.v (.yl 1)),(1,.v (.ptr 0 0))],[],⟨[.fb [.lit .bool p.2.2.1.1,.lit (.pair .bool .bool) p.2.2.1.2.1,.lit ja p.2.2.1.2.2],.loop 440003 [(3,.ptr 2 0),(5,.ptr 6 0)] .ready .normal,.fb [.all 3,.all 4,.all 5],.cells .bool p.t3.1,.cells (.pair .bool .bool) p.t4.1,.cells ja p.t5,.fb [.int .i64 e]],0⟩,7⟩
 Je:=⟨[0,1,29,30,31],[],[],[]⟩
 pe:=[(.exit 2,⟨[0,1],[],[],[]⟩)]
def Lh:LD ((List Ra)×Int×Pa×(List Bool)×(List (Bool×Bool))×(List Ra)) (Int×Int) (Int) where
 sk:=⟨[(0,.v (.yl 1)),(54,.v (.lit ja)),(55,.v (.int .i64)),(56,.v (.int .i64))],[],[.fb wh,.loop 440003 [(3,(.ptr 2 0)),(5,(.ptr 6 0))] .ready .normal,.fb Z4,.cells .bool,.cells (.pair .bool .bool),.cells ja,.fb (.cons (.int .i64) .nil)],0,7⟩
 p:=fun u=>(u.1.2.1,u.1.2.2.1,(q3 u.2.2.1),u.t5.1,u.t6.1,u.t7.1)
 t:=fun u=>(u.1.t3.1,u.t8.1.1)
 n:=fun p t=>(((),(p.1,(p.2.1,(t.1,())))),((),((w3 p.2.2.1),(((),((),())),(((),((),((),()))),(p.t3.1,(p.t4.1,(p.t5,((t.2,()),())))))))))
 st:=fun Y p t ki ke=>cond (decide (t.1<p.2.1))
  (ask (V.va t.1 (fa p.1)) ((Dh (3,0,(gx p.1 (ga t.1) Zb).1,(gx p.1 (ga t.1) Zb).2,p.2.2.2.1,p.2.2.2.2.1,p.2.2.2.2.2,t.2)).bind fun r1=>
  ki ((Ga (t.1+(1:Int))),r1)))
  (ke (t.2))
 o:=fun Z p e K=>K (.exit 6) ⟨[],[],⟨[.fb [.lit .bool p.2.2.1.1,.lit (.pair .bool .bool) p.2.2.1.2.1,.lit ja p.2.2.1.2.2],.loop 440003 [(3,.ptr 2 0),(5,.ptr 6 0)] .ready .normal,.fb [.all 3,.all 4,.all 5],.cells .bool p.t3.1,.cells (.pair .bool .bool) p.t4.1,.cells ja p.t5,.fb [.int .i64 e]],0⟩,7⟩
 Je:=⟨[0,54,55,56],[],[],[]⟩
 pe:=[(.exit 6,⟨[],[],[],[]⟩)]
def cz {X:Type} (a:Y34) (K:Int->Option X):Option X:=
 (Oa (ni.m (a.1.1,(nt (fa a.1.1)),a.1,a.2.1,a.2.2.1,a.2.2.2.1)) (0,a.2.2.2.2)).bind fun e1=>
 (Oa (rj.m (a.1.2.1,(nt (fa a.1.2.1)),a.1,a.2.1,a.2.2.1,a.2.2.2.1)) (0,e1)).bind fun e2=>
 (Oa (Lh.m (a.1.2.2,(nt (fa a.1.2.2)),a.1,a.2.1,a.2.2.1,a.2.2.2.1)) (0,e2)).bind fun e3=>
 K e3
def Uq:=fun a=>cz a some
def sW:Spec:=sN.sp Uq
noncomputable def Xj:Env:=⟨fun k=>[].contains k,ir [] [(440003,wz)],fun X k s K=>if k=1 then ni.q X s K else if k=9 then Kf.q X s K else if k=6 then rj.q X s K else if k=15 then Lh.q X s K else none⟩
noncomputable def RK:Code:=Lb [0,1,0,0] (vb Tryz.f69)
theorem qI (hc:Sa C Xj.call):Va Xj.loop (vc par C true [6,10] 66) (.loop RK):=
 lO hc ni (by intros;simp only [ni,LD.m,nn])
noncomputable def PK:Code:=Lb [1,0,1,0,0,1,1,0,0,1,1,0,0] (vb Tryz.f69)
theorem oI (hc:Sa C Xj.call):Va Xj.loop (vc par C true [6,10] 66) (.loop PK):=
 lO hc Kf (by intros;simp only [Kf,LD.m,nn])
noncomputable def QK:Code:=Lb [1,0,1,0,0] (vb Tryz.f69)
theorem pI (hc:Sa C Xj.call):Va Xj.loop (vc par C true [6,10] 66) (.loop QK):=
 lO hc rj (by intros;simp only [rj,LD.m,nn]) (hl:=(Yc (by kernel_rfl) (Db (oI hc) Bc)))
noncomputable def rI:Code:=Lb [1,1,1,0,0] (vb Tryz.f69)
theorem JF (hc:Sa C Xj.call):Va Xj.loop (vc par C true [6,10] 66) (.loop rI):=
 lO hc Lh (by intros;simp only [Lh,LD.m,nn])
theorem tW:OK (5) 69 (sN.sp Uq):=
 fO (d:=4) (env:=Xj) (uj cn (ccy rJ cyn)) (fn:=Tryz.f69) (mc:=@cz) (by intros;simp only [Uq,cz,nn]) (za:=[6,10]) (hl:=fun hc=>(Yc (by kernel_rfl) (Db (qI hc) (Db (pI hc) (Db (JF hc) Bc)))))
def R6:FS (Y29) (Int) where
 sk:=⟨(.cons (.agg wh) (.cons (.agg (.cons (.all 0) (.cons (.all 1) (.cons (.all 2) .nil)))) .nil)),[.cells .bool,.cells (.pair .bool .bool),.cells ja],0⟩
 a:=fun u=>((q3 u.1.1),u.2.1,u.2.2.1,u.t3.1)
 n:=fun a=>(((w3 a.1),(((),((),((),()))),())),(w3 a.2))
 o:=fun Z a r K=>K (.int .i64 r) ⟨[.cells .bool a.2.1,.cells (.pair .bool .bool) a.2.2.1,.cells ja a.t3],0⟩
def HA:PD (Pa×Int×Pa) (Int) where
 sk:=⟨[(3,.v (.ptr 3 0)),(5,.v (.ptr 4 0)),(8,.v (.fn 69 (.cons (.ptr 5 0) .nil)))],[],[.cells .bool,.cells (.pair .bool .bool),.cells ja,.fb (.cons (.all 0) (.cons (.all 1) (.cons (.all 2) .nil))),.fb (.cons (.int .i64) .nil),.fb wh],0,3⟩
 p:=fun u=>((q3 u.2.2),u.t6.1.1,(q3 u.t7.1))
 n:=fun p=>(((),((),(((),()),()))),((),(p.1.1,(p.1.2.1,(p.1.2.2,(((),((),((),()))),((p.2.1,()),((w3 p.2.2),()))))))))
 st:=fun Y p ke=>(Uq (p.2.2,p.1.1,p.1.2.1,p.1.2.2,p.2.1)).bind fun r1=>
  ke (r1)
 o:=fun Z p e K=>K .normal ⟨[(5,.v (.ptr 3 0))],[],⟨[.cells .bool p.1.1,.cells (.pair .bool .bool) p.1.2.1,.cells ja p.1.2.2,.fb [.int .i64 e]],0⟩,3⟩
 Je:=⟨[3,5,8],[],[],[]⟩
 pe:=[(.normal,⟨[5],[],[],[]⟩)]
def KN {X:Type} (a:Y29) (K:Int->Option X):Option X:=
 (HA.m (a.2,0,a.1)).bind fun e1=>
 K e1
def IA:=fun a=>KN a some
def R_:Spec:=R6.sp IA
noncomputable def JN:Env:=⟨fun k=>[].contains k,Cb [(43,dX),(69,sW)],fun X k s K=>if k=3 then HA.q X s K else none⟩
theorem CQ (hc:Sa C JN.call):Va JN.loop (vc par C true [] 17) (.rangeFunc (rfG (Lb [1,1,0,1,0] (vb Tryz.f44))) (bP (Lb [1,1,0,1,0] (vb Tryz.f44))) (rfA (Lb [1,1,0,1,0] (vb Tryz.f44))) (rfB (Lb [1,1,0,1,0] (vb Tryz.f44)))):=
 rO (env:=JN) hc (id:=440003) (ks:=[3,5]) HA (by intros;simp only [HA,PD.m,nn])
theorem S_:OK (6) 44 (R6.sp IA):=
 fO (d:=5) (env:=JN) (Aa (cc gX (cc tW cn))) (fn:=Tryz.f44) (mc:=@KN) (by intros;simp only [IA,KN,nn]) (hl:=fun hc=>(Yc (by kernel_rfl) (Db (CQ hc) Bc)))
end
end Go.U
end
