/- The functions of the program as Lean functions, and that the evaluator says so. -/
import Derived.Test.YtjenflkegbmkkaaGreatDoorC7
set_option linter.unusedVariables false
set_option linter.unusedSimpArgs false
set_option linter.unusedSectionVars false
open ByteArray renaming size→Qa
open Int renaming toNat→ga
open List renaming length→fa
section
set_option maxRecDepth 100000
namespace Go.U
open Go Go.Proofs
noncomputable section
variable {C:V.Callee}
def LN:FS (Unit) (Unit) where
 sk:=⟨(.cons (.agg (.cons .Wa (.cons .Wa (.cons .Wa .nil)))) .nil),[],0⟩
 a:=fun u=>()
 n:=fun a=>((((),((),((),()))),()),())
 o:=fun Z a r K=>K (.fn 69 [.ptr 0 0]) ⟨[.fb [.Wa,.Wa,.Wa]],0⟩
def PF {X:Type} (a:Unit) (K:Unit->Option X):Option X:=
 K ()
def OF:=fun a=>PF a some
def aX:Spec:=LN.sp OF
noncomputable def G3:Env:=⟨fun k=>[].contains k,Cb [],fun X k s K=>none⟩
theorem bX:OK (1) 43 (LN.sp OF):=
 fO (d:=0) (env:=G3) (Aa cn) (fn:=Tryz.f43) (mc:=@PF) (by intros;simp only [OF,PF,nn])
def rN:FS (Y3) (Y3) where
 sk:=⟨(.cons (.yl 1) (.cons (.ptr 0 0) .nil)),[.fb (.cons .Wa (.cons .Wa (.cons .Wa .nil))),.loop 230003 [(5,(.ptr 2 0))] .ready .normal,.fb Z4,.cells .bool,.cells (.pair .bool .bool),.cells ja],0⟩
 a:=fun u=>(u.t4.1,u.t5.1,u.t6.1)
 n:=fun a=>(((),((),())),(((),((),((),()))),(((),()),(((),((),((),()))),(w3 a)))))
 o:=fun Z a r K=>K (.Rc []) ⟨[.fb [.Wa,.Wa,.Wa],.loop 230003 [(5,.ptr 2 0)] .ready .normal,.fb [.all 3,.all 4,.all 6],.cells .bool r.1,.cells (.pair .bool .bool) r.2.1,.dead,.cells ja r.2.2],0⟩
def Cu:LD ((List Bool)×Int) (zO) (Y3) where
 sk:=⟨[(0,.v (.yl 1)),(1,.v (.ptr 0 0)),(12,.v (.lit .bool)),(13,.v (.int .i64)),(14,.v (.int .i64))],[],[.fb (.cons .Wa (.cons .Wa (.cons .Wa .nil))),.loop 230003 [(5,(.ptr 2 0))] .ready .normal,.fb X4,.cells .bool,.cells (.pair .bool .bool),.dead,.cells ja],0,6⟩
 p:=fun u=>(u.1.2.2.1,u.1.t3.1)
 t:=fun u=>(u.1.t4.1,u.t5.1,u.t6.1,u.t8.1)
 n:=fun p t=>(((),((),(p.1,(p.2,(t.1,()))))),((),(((),((),((),()))),(((),()),(((),((),((),()))),(t.2.1,(t.2.2.1,((),(t.t3,())))))))))
 st:=fun Y p t ki ke=>cond (decide (t.1<p.2))
  (ask (V.va t.1 (fa p.1)) (cond (gx p.1 (ga t.1) false)
  ((Ld (0,t.1,0,0,t.2.1,t.2.2.1,t.2.2.2)).bind fun r1=>
  Sum.elim (fun r2=>ki ((Ga (t.1+(1:Int))),r2.1,r2.2,t.2.2.2))
  (fun r3=>ki ((Ga (t.1+(1:Int))),t.2.1,t.2.2.1,r3)) r1)
  (ki ((Ga (t.1+(1:Int))),t.2.1,t.2.2.1,t.2.2.2))))
  (ke ((t.2.1,t.2.2.1,t.2.2.2)))
 o:=fun Z p e K=>K (.exit 0) ⟨[(0,.v (.yl 1)),(1,.v (.ptr 0 0))],[],⟨[.fb [.Wa,.Wa,.Wa],.loop 230003 [(5,.ptr 2 0)] .ready .normal,.fb [.all 3,.all 4,.all 6],.cells .bool e.1,.cells (.pair .bool .bool) e.2.1,.dead,.cells ja e.2.2],0⟩,6⟩
 Je:=⟨[0,1,12,13,14],[(12,(.lit .bool))],[],[(2,[.any,.any,(.mv ja)])]⟩
 pe:=[(.exit 0,⟨[0,1],[],[],[]⟩)]
def Au:LD (Int×((List (Bool×Bool))×Int)×Int×(Bool×Bool)) (zO) (Y3) where
 sk:=⟨[(0,.v (.yl 1)),(1,.v (.ptr 0 0)),(5,.v (.int .i64)),(29,.v (.lit (.pair .bool .bool))),(30,.v (.int .i64)),(31,.v (.int .i64)),(36,.v (.agg (.cons .bool (.cons .bool .nil)))),(37,.v (.int .i64))],[],[.fb (.cons .Wa (.cons .Wa (.cons .Wa .nil))),.loop 230003 [(5,(.ptr 2 0))] .ready .normal,.fb X4,.cells .bool,.cells (.pair .bool .bool),.dead,.cells ja],0,6⟩
 p:=fun u=>(u.1.2.2.1,(u.1.t3.1,u.1.t4.1),u.1.t5.1,(u.1.t6.1.1,u.1.t6.1.2.1))
 t:=fun u=>(u.1.t7.1,u.t5.1,u.t6.1,u.t8.1)
 n:=fun p t=>(((),((),(p.1,(p.2.1.1,(p.2.1.2,(p.2.2.1,((p.t3.1,(p.t4,())),(t.1,())))))))),((),(((),((),((),()))),(((),()),(((),((),((),()))),(t.2.1,(t.2.2.1,((),(t.t3,())))))))))
 st:=fun Y p t ki ke=>cond (decide (t.1<(2:Int)))
  (cond (decide (t.1=(0:Int)))
  (cond p.2.2.2.1
  ((Ld ((Ga ((1:Int)+t.1)),p.1,0,0,t.2.1,t.2.2.1,t.2.2.2)).bind fun r1=>
  Sum.elim (fun r2=>ki ((Ga (t.1+(1:Int))),r2.1,r2.2,t.2.2.2))
  (fun r3=>ki ((Ga (t.1+(1:Int))),t.2.1,t.2.2.1,r3)) r1)
  (ki ((Ga (t.1+(1:Int))),t.2.1,t.2.2.1,t.2.2.2)))
  (cond (decide (t.1=(1:Int)))
  (cond p.2.2.2.2
  ((Ld ((Ga ((1:Int)+t.1)),p.1,0,0,t.2.1,t.2.2.1,t.2.2.2)).bind fun r4=>
  Sum.elim (fun r5=>ki ((Ga (t.1+(1:Int))),r5.1,r5.2,t.2.2.2))
  (fun r6=>ki ((Ga (t.1+(1:Int))),t.2.1,t.2.2.1,r6)) r4)
  (ki ((Ga (t.1+(1:Int))),t.2.1,t.2.2.1,t.2.2.2)))
  (none)))
  (ke ((t.2.1,t.2.2.1,t.2.2.2)))
 o:=fun Z p e K=>K (.exit 4) ⟨[(0,.v (.yl 1)),(1,.v (.ptr 0 0)),(29,.v (.lit (.pair .bool .bool) p.2.1.1)),(30,.v (.int .i64 p.2.1.2)),(31,.v (.int .i64 p.2.2.1))],[],⟨[.fb [.Wa,.Wa,.Wa],.loop 230003 [(5,.ptr 2 0)] .ready .normal,.fb [.all 3,.all 4,.all 6],.cells .bool e.1,.cells (.pair .bool .bool) e.2.1,.dead,.cells ja e.2.2],0⟩,6⟩
 Je:=⟨[0,1,5,29,30,31,36,37],[],[],[]⟩
 pe:=[(.exit 4,⟨[0,1,29,30,31],[],[],[]⟩)]
def Bu:LD ((List (Bool×Bool))×Int) (zO) (Y3) where
 sk:=⟨[(0,.v (.yl 1)),(1,.v (.ptr 0 0)),(29,.v (.lit (.pair .bool .bool))),(30,.v (.int .i64)),(31,.v (.int .i64))],[],[.fb (.cons .Wa (.cons .Wa (.cons .Wa .nil))),.loop 230003 [(5,(.ptr 2 0))] .ready .normal,.fb X4,.cells .bool,.cells (.pair .bool .bool),.dead,.cells ja],0,6⟩
 p:=fun u=>(u.1.2.2.1,u.1.t3.1)
 t:=fun u=>(u.1.t4.1,u.t5.1,u.t6.1,u.t8.1)
 n:=fun p t=>(((),((),(p.1,(p.2,(t.1,()))))),((),(((),((),((),()))),(((),()),(((),((),((),()))),(t.2.1,(t.2.2.1,((),(t.t3,())))))))))
 st:=fun Y p t ki ke=>cond (decide (t.1<p.2))
  (ask (V.va t.1 (fa p.1)) ((Oa (Au.m (t.1,p,t.1,(gx p.1 (ga t.1) (false,false)))) (0,t.2.1,t.2.2.1,t.2.2.2)).bind fun e1=>
  ki ((Ga (t.1+(1:Int))),e1.1,e1.2.1,e1.2.2)))
  (ke ((t.2.1,t.2.2.1,t.2.2.2)))
 o:=fun Z p e K=>K (.exit 2) ⟨[(0,.v (.yl 1)),(1,.v (.ptr 0 0))],[],⟨[.fb [.Wa,.Wa,.Wa],.loop 230003 [(5,.ptr 2 0)] .ready .normal,.fb [.all 3,.all 4,.all 6],.cells .bool e.1,.cells (.pair .bool .bool) e.2.1,.dead,.cells ja e.2.2],0⟩,6⟩
 Je:=⟨[0,1,29,30,31],[(29,(.lit (.pair .bool .bool)))],[],[]⟩
 pe:=[(.exit 2,⟨[0,1],[],[],[]⟩)]
def Tq:LD ((List Ra)×Int) (zO) (Y3) where
 sk:=⟨[(0,.v (.yl 1)),(54,.v (.lit ja)),(55,.v (.int .i64)),(56,.v (.int .i64))],[],[.fb (.cons .Wa (.cons .Wa (.cons .Wa .nil))),.loop 230003 [(5,(.ptr 2 0))] .ready .normal,.fb X4,.cells .bool,.cells (.pair .bool .bool),.dead,.cells ja],0,6⟩
 p:=fun u=>(u.1.2.1,u.1.2.2.1)
 t:=fun u=>(u.1.t3.1,u.t5.1,u.t6.1,u.t8.1)
 n:=fun p t=>(((),(p.1,(p.2,(t.1,())))),((),(((),((),((),()))),(((),()),(((),((),((),()))),(t.2.1,(t.2.2.1,((),(t.t3,())))))))))
 st:=fun Y p t ki ke=>cond (decide (t.1<p.2))
  (ask (V.va t.1 (fa p.1)) ((Ld (3,0,(gx p.1 (ga t.1) Zb).1,(gx p.1 (ga t.1) Zb).2,t.2.1,t.2.2.1,t.2.2.2)).bind fun r1=>
  Sum.elim (fun r2=>ki ((Ga (t.1+(1:Int))),r2.1,r2.2,t.2.2.2))
  (fun r3=>ki ((Ga (t.1+(1:Int))),t.2.1,t.2.2.1,r3)) r1))
  (ke ((t.2.1,t.2.2.1,t.2.2.2)))
 o:=fun Z p e K=>K (.exit 6) ⟨[],[],⟨[.fb [.Wa,.Wa,.Wa],.loop 230003 [(5,.ptr 2 0)] .ready .normal,.fb [.all 3,.all 4,.all 6],.cells .bool e.1,.cells (.pair .bool .bool) e.2.1,.dead,.cells ja e.2.2],0⟩,6⟩
 Je:=⟨[0,54,55,56],[(54,(.lit ja))],[],[]⟩
 pe:=[(.exit 6,⟨[],[],[],[]⟩)]
def IF {X:Type} (a:Y3) (K:Y3->Option X):Option X:=
 (Oa (Cu.m ([],0)) (0,a.1,a.2.1,a.2.2)).bind fun e1=>
 (Oa (Bu.m ([],0)) (0,e1.1,e1.2.1,e1.2.2)).bind fun e2=>
 (Oa (Tq.m ([],0)) (0,e2.1,e2.2.1,e2.2.2)).bind fun e3=>
 K (e3.1,e3.2.1,e3.2.2)
def bz:=fun a=>IF a some
def qW:Spec:=rN.sp bz
noncomputable def Wj:Env:=⟨fun k=>[].contains k,ir [] [(230003,As)],fun X k s K=>if k=1 then Cu.q X s K else if k=9 then Au.q X s K else if k=6 then Bu.q X s K else if k=15 then Tq.q X s K else none⟩
noncomputable def KK:Code:=Lb [0,1,0,0] (vb Tryz.f69)
theorem lI (hc:Sa C Wj.call):Va Wj.loop (vc par C true [6,10] 66) (.loop KK):=
 lO hc Cu (by intros;simp only [Cu,LD.m,nn])
noncomputable def IK:Code:=Lb [1,0,1,0,0,1,1,0,0,1,1,0,0] (vb Tryz.f69)
theorem jI (hc:Sa C Wj.call):Va Wj.loop (vc par C true [6,10] 66) (.loop IK):=
 lO hc Au (by intros;simp only [Au,LD.m,nn])
noncomputable def JK:Code:=Lb [1,0,1,0,0] (vb Tryz.f69)
theorem kI (hc:Sa C Wj.call):Va Wj.loop (vc par C true [6,10] 66) (.loop JK):=
 lO hc Bu (by intros;simp only [Bu,LD.m,nn]) (hl:=(Yc (by kernel_rfl) (Db (jI hc) Bc)))
noncomputable def mI:Code:=Lb [1,1,1,0,0] (vb Tryz.f69)
theorem HF (hc:Sa C Wj.call):Va Wj.loop (vc par C true [6,10] 66) (.loop mI):=
 lO hc Tq (by intros;simp only [Tq,LD.m,nn])
theorem rW:OK (5) 69 (rN.sp bz):=
 fO (d:=4) (env:=Wj) (uj cn (ccy yz cyn)) (fn:=Tryz.f69) (mc:=@IF) (by intros;simp only [bz,IF,nn]) (za:=[6,10]) (hl:=fun hc=>(Yc (by kernel_rfl) (Db (lI hc) (Db (kI hc) (Db (HF hc) Bc)))))
def YN:FS (Y3) (Y3) where
 sk:=⟨(.cons (.agg (.cons (.all 0) (.cons (.all 1) (.cons (.all 2) .nil)))) (.cons (.agg (.cons .Wa (.cons .Wa (.cons .Wa .nil)))) .nil)),[.cells .bool,.cells (.pair .bool .bool),.cells ja],0⟩
 a:=fun u=>(u.2.1,u.2.2.1,u.t3.1)
 n:=fun a=>((((),((),((),()))),(((),((),((),()))),())),(w3 a))
 o:=fun Z a r K=>K (.agg [.all 3,.all 4,.all 5]) ⟨[.cells .bool a.1,.cells (.pair .bool .bool) a.2.1,.cells ja a.2.2,.cells .bool r.1,.cells (.pair .bool .bool) r.2.1,.cells ja r.2.2],0⟩
def Iu:PD (Y29) (Y3) where
 sk:=⟨[(4,.v (.ptr 3 0)),(5,.v (.ptr 4 0)),(18,.v (.fn 69 (.cons (.ptr 8 0) .nil)))],[],[.cells .bool,.cells (.pair .bool .bool),.cells ja,.fb (.cons .Wa (.cons .Wa (.cons .Wa .nil))),.fb (.cons (.all 5) (.cons (.all 6) (.cons (.all 7) .nil))),.cells .bool,.cells (.pair .bool .bool),.cells ja,.fb (.cons .Wa (.cons .Wa (.cons .Wa .nil)))],0,3⟩
 p:=fun u=>((q3 u.2.2),u.t7.1,u.t8.1,u.t9.1)
 n:=fun p=>(((),((),(((),()),()))),((),(p.1.1,(p.1.2.1,(p.1.2.2,(((),((),((),()))),(((),((),((),()))),(p.2.1,(p.2.2.1,(p.t3,(((),((),((),()))),())))))))))))
 st:=fun Y p ke=>(bz (p.2.1,p.2.2.1,p.2.2.2)).bind fun r1=>
  ke ((r1.1,r1.2.1,r1.2.2))
 o:=fun Z p e K=>K .normal ⟨[(4,.v (.ptr 3 0)),(5,.v (.ptr 4 0))],[],⟨[.cells .bool p.1.1,.cells (.pair .bool .bool) p.1.2.1,.cells ja p.1.2.2,.fb [.Wa,.Wa,.Wa],.fb [.all 5,.all 6,.all 7],.cells .bool e.1,.cells (.pair .bool .bool) e.2.1,.cells ja e.2.2],0⟩,3⟩
 Je:=⟨[4,5,18],[],[],[]⟩
 pe:=[(.normal,⟨[4,5],[],[],[]⟩)]
def TF {X:Type} (a:Y3) (K:Y3->Option X):Option X:=
 (IN a.1).bind fun r1=>
 (HN a.2.1).bind fun r2=>
 (GN a.2.2).bind fun r3=>
 (Iu.m (a,r1,r2,r3)).bind fun e4=>
 (tD e4.2.2).bind fun r5=>
 K (e4.1,e4.2.1,r5)
def Xq:=fun a=>TF a some
def GX:Spec:=YN.sp Xq
noncomputable def iz:Env:=⟨fun k=>[].contains k,Cb [(47,kL),(48,jL),(49,iL),(43,aX),(69,qW),(51,dL)],fun X k s K=>if k=3 then Iu.q X s K else none⟩
theorem GI (hc:Sa C iz.call):Va iz.loop (vc par C true [] 63) (.rangeFunc (rfG (Lb [1,1,0,1,0] (vb Tryz.f23))) (bP (Lb [1,1,0,1,0] (vb Tryz.f23))) (rfA (Lb [1,1,0,1,0] (vb Tryz.f23))) (rfB (Lb [1,1,0,1,0] (vb Tryz.f23)))):=
 rO (env:=iz) hc (id:=230003) (ks:=[5]) Iu (by intros;simp only [Iu,PD.m,nn])
theorem HX:OK (6) 23 (YN.sp Xq):=
 fO (d:=5) (env:=iz) (Aa (cc XW (cc WW (cc VW (cc bX (cc rW (cc UW cn))))))) (fn:=Tryz.f23) (mc:=@TF) (by intros;simp only [Xq,TF,nn]) (sh:=(.agg [(.own .bool),(.own (.pair .bool .bool)),(.own ja)])) (hl:=fun hc=>(Yc (by kernel_rfl) (Db (GI hc) Bc)))
def JO:FS (Int×Int×Int×Int×(List Bool)×(List (Bool×Bool))×(List Ra)×Bool) ((Unit) ⊕ (Unit)) where
 sk:=⟨(.cons (.yl 0) (.cons (.agg jA) .nil)),[.loop 240002 [(3,(.ptr 1 0)),(4,(.ptr 5 0))] .ready .normal,.fb K8,.cells .bool,.cells (.pair .bool .bool),.cells ja,.fb (.cons .bool .nil)],0⟩
 a:=fun u=>(u.1.2.1.1,u.1.2.1.2.1,u.1.2.1.2.2.1,u.1.2.1.t3.1,u.t3.1,u.t4.1,u.t5.1,u.t6.1.1)
 n:=fun a=>(((),((a.1,(a.2.1,(a.2.2.1,(a.t3.1,())))),())),(((),((),())),(((),((),((),()))),(a.t4.1,(a.t5.1,(a.t6.1,((a.t7,()),())))))))
 o:=fun Z a r K=>Sum.elim (fun e=>K (.bool false) ⟨[.loop 240002 [(3,.ptr 1 0),(4,.ptr 5 0)] .done .ret,.fb [.all 2,.all 3,.all 4],.cells .bool a.t4.1,.cells (.pair .bool .bool) a.t5.1,.cells ja a.t6.1,.fb [.bool false]],0⟩) (fun e=>K (.bool true) ⟨[.loop 240002 [(3,.ptr 1 0),(4,.ptr 5 0)] .ready .normal,.fb [.all 2,.all 3,.all 4],.cells .bool a.t4.1,.cells (.pair .bool .bool) a.t5.1,.cells ja a.t6.1,.fb [.bool a.t7]],0⟩) r
def Av {X:Type} (a:Int×Int×Int×Int×(List Bool)×(List (Bool×Bool))×(List Ra)×Bool) (K:(Unit) ⊕ (Unit)->Option X):Option X:=
 (Kg ((a.1,(a.2.1,(a.2.2.1,a.2.2.2.1))),a.2.2.2.2.1,a.2.2.2.2.2.1,a.2.2.2.2.2.2.1)).bind fun r1=>
 cond (!r1)
 (K (.inl ()))
 (K (.inr (())))
def Eh:=fun a=>Av a some
def xz:Spec:=JO.sp Eh
noncomputable def KO:Env:=⟨fun k=>[].contains k,Cb [(50,eL)],fun X k s K=>none⟩
theorem sJ:OKY (4) xz:=
 EZ (d:=3) (env:=KO) (Aa (cc gL cn)) (id:=240002) (r:=rfT 240002) rfl (fun hc=>(Yc (by kernel_rfl) Bc)) (fun hc=>(Yc (by kernel_rfl) Bc)) (mc:=fun X a K=>Av a K) (fun _ _ _=>by kernel_rfl) (by intros;simp only [Eh,Av,nn]) (fun _=>rfl)
def qN:FS (Y35) ((Unit) ⊕ (Unit)) where
 sk:=⟨(.cons (.yl 4) (.cons (.ptr 0 0) .nil)),[.fb eZ,.cells .bool,.cells (.pair .bool .bool),.cells ja,.loop 240002 [(3,(.ptr 5 0)),(4,(.ptr 9 0))] .ready .normal,.fb kr9,.cells .bool,.cells (.pair .bool .bool),.cells ja,.fb (.cons .bool .nil)],0⟩
 a:=fun u=>(u.2.2.1,u.t3.1,u.t4.1,u.t7.1,u.t8.1,u.t9.1,u.t10.1.1)
 n:=fun a=>(((),((),())),(((),((),((),()))),(a.1,(a.2.1,(a.2.2.1,(((),((),())),(((),((),((),()))),(a.t3.1,(a.t4.1,(a.t5.1,((a.t6,()),())))))))))))
 o:=fun Z a r K=>Sum.elim (fun e=>K (.Rc []) ⟨[.fb [.all 1,.all 2,.all 3],.cells .bool a.1,.cells (.pair .bool .bool) a.2.1,.cells ja a.2.2.1,.loop 240002 [(3,.ptr 5 0),(4,.ptr 9 0)] .done .ret,.fb [.all 6,.all 7,.all 8],.cells .bool a.t3.1,.cells (.pair .bool .bool) a.t4.1,.cells ja a.t5.1,.fb [.bool false]],0⟩) (fun e=>K (.Rc []) ⟨[.fb [.all 1,.all 2,.all 3],.cells .bool a.1,.cells (.pair .bool .bool) a.2.1,.cells ja a.2.2.1,.loop 240002 [(3,.ptr 5 0),(4,.ptr 9 0)] .ready .normal,.fb [.all 6,.all 7,.all 8],.cells .bool a.t3.1,.cells (.pair .bool .bool) a.t4.1,.cells ja a.t5.1,.fb [.bool a.t6]],0⟩) r
def qj:LD (Int×((List Bool)×((List (Bool×Bool))×((List Ra)×((List Bool)×(Y36)))))) (Int) ((Unit) ⊕ (Unit)) where
 sk:=⟨[(0,.v (.yl 4)),(1,.v (.ptr 0 0)),(12,.v (.all 1)),(13,.v (.int .i64)),(14,.v (.int .i64))],[],[.fb eZ,.cells .bool,.cells (.pair .bool .bool),.cells ja,.loop 240002 [(3,(.ptr 5 0)),(4,(.ptr 9 0))] .ready .normal,.fb kr9,.cells .bool,.cells (.pair .bool .bool),.cells ja,.fb (.cons .bool .nil)],0,10⟩
 p:=fun u=>(u.1.t3.1,(u.t3.1,(u.t4.1,(u.t5.1,(u.t8.1,(u.t9.1,(u.t10.1,u.t11.1.1)))))))
 t:=fun u=>u.1.t4.1
 n:=fun p t=>(((),((),((),(p.1,(t,()))))),((),(((),((),((),()))),(p.2.1,(p.2.2.1,(p.t3.1,(((),((),())),(((),((),((),()))),(p.t4.1,(p.t5.1,(p.t6.1,((p.t7,()),()))))))))))))
 st:=fun Y p t ki ke=>cond (decide (t<p.1))
  (ask (V.va t (fa p.2.1)) (cond (gx p.2.1 (ga t) false)
  ((Eh (0,t,0,0,p.2.2.2.2.1,p.2.2.2.2.2.1,p.2.2.2.2.2.2.1,p.2.2.2.2.2.2.2)).bind fun r1=>
  Sum.elim (fun r2=>ke (.inl ()))
  (fun r3=>ki ((Ga (t+(1:Int))))) r1)
  (ki ((Ga (t+(1:Int)))))))
  (ke (.inr (())))
 o:=fun Z p e K=>Sum.elim (fun e=>K .ret ⟨[],[],⟨[.fb [.all 1,.all 2,.all 3],.cells .bool p.2.1,.cells (.pair .bool .bool) p.2.2.1,.cells ja p.t3.1,.loop 240002 [(3,.ptr 5 0),(4,.ptr 9 0)] .done .ret,.fb [.all 6,.all 7,.all 8],.cells .bool p.t4.1,.cells (.pair .bool .bool) p.t5.1,.cells ja p.t6.1,.fb [.bool false]],0⟩,10⟩) (fun e=>K (.exit 0) ⟨[(0,.v (.yl 4)),(1,.v (.ptr 0 0))],[],⟨[.fb [.all 1,.all 2,.all 3],.cells .bool p.2.1,.cells (.pair .bool .bool) p.2.2.1,.cells ja p.t3.1,.loop 240002 [(3,.ptr 5 0),(4,.ptr 9 0)] .ready .normal,.fb [.all 6,.all 7,.all 8],.cells .bool p.t4.1,.cells (.pair .bool .bool) p.t5.1,.cells ja p.t6.1,.fb [.bool p.t7]],0⟩,10⟩) e
 Je:=⟨[0,1,12,13,14],[],[],[]⟩
 pe:=[(.ret,⟨[],[],[],[]⟩),(.exit 0,⟨[0,1],[],[],[]⟩)]
def Jf:LD (Int×Int×Int×(Bool×Bool)×((List Bool)×((List (Bool×Bool))×((List Ra)×((List Bool)×(Y36)))))) (Int) ((Unit) ⊕ (Unit)) where
 sk:=⟨[(0,.v (.yl 4)),(1,.v (.ptr 0 0)),(5,.v (.int .i64)),(29,.v (.all 2)),(30,.v (.int .i64)),(31,.v (.int .i64)),(36,.v (.agg (.cons .bool (.cons .bool .nil)))),(37,.v (.int .i64))],[],[.fb eZ,.cells .bool,.cells (.pair .bool .bool),.cells ja,.loop 240002 [(3,(.ptr 5 0)),(4,(.ptr 9 0))] .ready .normal,.fb kr9,.cells .bool,.cells (.pair .bool .bool),.cells ja,.fb (.cons .bool .nil)],0,10⟩
 p:=fun u=>(u.1.2.2.1,u.1.t4.1,u.1.t5.1,(u.1.t6.1.1,u.1.t6.1.2.1),(u.t3.1,(u.t4.1,(u.t5.1,(u.t8.1,(u.t9.1,(u.t10.1,u.t11.1.1)))))))
 t:=fun u=>u.1.t7.1
 n:=fun p t=>(((),((),(p.1,((),(p.2.1,(p.2.2.1,((p.t3.1.1,(p.t3.1.2,())),(t,())))))))),((),(((),((),((),()))),(p.t4.1,(p.t5.1,(p.t6.1,(((),((),())),(((),((),((),()))),(p.t7.1,(p.t8.1,(p.t9.1,((p.t10,()),()))))))))))))
 st:=fun Y p t ki ke=>cond (decide (t<(2:Int)))
  (cond (decide (t=(0:Int)))
  (cond p.2.2.2.1.1
  ((Eh ((Ga ((1:Int)+t)),p.1,0,0,p.2.2.2.2.2.2.2.1,p.2.2.2.2.2.2.2.2.1,p.2.2.2.2.2.2.2.2.2.1,p.2.2.2.2.2.2.2.2.2.2)).bind fun r1=>
  Sum.elim (fun r2=>ke (.inl ()))
  (fun r3=>ki ((Ga (t+(1:Int))))) r1)
  (ki ((Ga (t+(1:Int))))))
  (cond (decide (t=(1:Int)))
  (cond p.2.2.2.1.2
  ((Eh ((Ga ((1:Int)+t)),p.1,0,0,p.2.2.2.2.2.2.2.1,p.2.2.2.2.2.2.2.2.1,p.2.2.2.2.2.2.2.2.2.1,p.2.2.2.2.2.2.2.2.2.2)).bind fun r4=>
  Sum.elim (fun r5=>ke (.inl ()))
  (fun r6=>ki ((Ga (t+(1:Int))))) r4)
  (ki ((Ga (t+(1:Int))))))
  (none)))
  (ke (.inr (())))
 o:=fun Z p e K=>Sum.elim (fun e=>K .ret ⟨[],[],⟨[.fb [.all 1,.all 2,.all 3],.cells .bool p.t4.1,.cells (.pair .bool .bool) p.t5.1,.cells ja p.t6.1,.loop 240002 [(3,.ptr 5 0),(4,.ptr 9 0)] .done .ret,.fb [.all 6,.all 7,.all 8],.cells .bool p.t7.1,.cells (.pair .bool .bool) p.t8.1,.cells ja p.t9.1,.fb [.bool false]],0⟩,10⟩) (fun e=>K (.exit 4) ⟨[(0,.v (.yl 4)),(1,.v (.ptr 0 0)),(29,.v (.all 2)),(30,.v (.int .i64 p.2.1)),(31,.v (.int .i64 p.2.2.1))],[],⟨[.fb [.all 1,.all 2,.all 3],.cells .bool p.t4.1,.cells (.pair .bool .bool) p.t5.1,.cells ja p.t6.1,.loop 240002 [(3,.ptr 5 0),(4,.ptr 9 0)] .ready .normal,.fb [.all 6,.all 7,.all 8],.cells .bool p.t7.1,.cells (.pair .bool .bool) p.t8.1,.cells ja p.t9.1,.fb [.bool p.t10]],0⟩,10⟩) e
 Je:=⟨[0,1,5,29,30,31,36,37],[],[],[]⟩
 pe:=[(.ret,⟨[],[],[],[]⟩),(.exit 4,⟨[0,1,29,30,31],[],[],[]⟩)]
def nj:LD (Int×((List Bool)×((List (Bool×Bool))×((List Ra)×((List Bool)×(Y36)))))) (Int) ((Unit) ⊕ (Unit)) where
 sk:=⟨[(0,.v (.yl 4)),(1,.v (.ptr 0 0)),(29,.v (.all 2)),(30,.v (.int .i64)),(31,.v (.int .i64))],[],[.fb eZ,.cells .bool,.cells (.pair .bool .bool),.cells ja,.loop 240002 [(3,(.ptr 5 0)),(4,(.ptr 9 0))] .ready .normal,.fb kr9,.cells .bool,.cells (.pair .bool .bool),.cells ja,.fb (.cons .bool .nil)],0,10⟩
 p:=fun u=>(u.1.t3.1,(u.t3.1,(u.t4.1,(u.t5.1,(u.t8.1,(u.t9.1,(u.t10.1,u.t11.1.1)))))))
 t:=fun u=>u.1.t4.1
 n:=fun p t=>(((),((),((),(p.1,(t,()))))),((),(((),((),((),()))),(p.2.1,(p.2.2.1,(p.t3.1,(((),((),())),(((),((),((),()))),(p.t4.1,(p.t5.1,(p.t6.1,((p.t7,()),()))))))))))))
 st:=fun Y p t ki ke=>cond (decide (t<p.1))
  (ask (V.va t (fa p.2.2.1)) ((Oa (Jf.m (t,p.1,t,(gx p.2.2.1 (ga t) (false,false)),p.2)) 0).bind fun e1=>
  Sum.elim (fun e2=>ke (.inl ()))
  (fun e3=>ki ((Ga (t+(1:Int))))) e1))
  (ke (.inr (())))
 o:=fun Z p e K=>Sum.elim (fun e=>K .ret ⟨[],[],⟨[.fb [.all 1,.all 2,.all 3],.cells .bool p.2.1,.cells (.pair .bool .bool) p.2.2.1,.cells ja p.t3.1,.loop 240002 [(3,.ptr 5 0),(4,.ptr 9 0)] .done .ret,.fb [.all 6,.all 7,.all 8],.cells .bool p.t4.1,.cells (.pair .bool .bool) p.t5.1,.cells ja p.t6.1,.fb [.bool false]],0⟩,10⟩) (fun e=>K (.exit 2) ⟨[(0,.v (.yl 4)),(1,.v (.ptr 0 0))],[],⟨[.fb [.all 1,.all 2,.all 3],.cells .bool p.2.1,.cells (.pair .bool .bool) p.2.2.1,.cells ja p.t3.1,.loop 240002 [(3,.ptr 5 0),(4,.ptr 9 0)] .ready .normal,.fb [.all 6,.all 7,.all 8],.cells .bool p.t4.1,.cells (.pair .bool .bool) p.t5.1,.cells ja p.t6.1,.fb [.bool p.t7]],0⟩,10⟩) e
 Je:=⟨[0,1,29,30,31],[],[],[]⟩
 pe:=[(.ret,⟨[],[],[],[]⟩),(.exit 2,⟨[0,1],[],[],[]⟩)]
def Kh:LD (Int×((List Bool)×((List (Bool×Bool))×((List Ra)×((List Bool)×(Y36)))))) (Int) ((Unit) ⊕ (Unit)) where
 sk:=⟨[(0,.v (.yl 4)),(54,.v (.all 3)),(55,.v (.int .i64)),(56,.v (.int .i64))],[],[.fb eZ,.cells .bool,.cells (.pair .bool .bool),.cells ja,.loop 240002 [(3,(.ptr 5 0)),(4,(.ptr 9 0))] .ready .normal,.fb kr9,.cells .bool,.cells (.pair .bool .bool),.cells ja,.fb (.cons .bool .nil)],0,10⟩
 p:=fun u=>(u.1.2.2.1,(u.t3.1,(u.t4.1,(u.t5.1,(u.t8.1,(u.t9.1,(u.t10.1,u.t11.1.1)))))))
 t:=fun u=>u.1.t3.1
 n:=fun p t=>(((),((),(p.1,(t,())))),((),(((),((),((),()))),(p.2.1,(p.2.2.1,(p.t3.1,(((),((),())),(((),((),((),()))),(p.t4.1,(p.t5.1,(p.t6.1,((p.t7,()),()))))))))))))
 st:=fun Y p t ki ke=>cond (decide (t<p.1))
  (ask (V.va t (fa p.2.2.2.1)) ((Eh (3,0,(gx p.2.2.2.1 (ga t) Zb).1,(gx p.2.2.2.1 (ga t) Zb).2,p.2.2.2.2.1,p.2.2.2.2.2.1,p.2.2.2.2.2.2.1,p.2.2.2.2.2.2.2)).bind fun r1=>
  Sum.elim (fun r2=>ke (.inl ()))
  (fun r3=>ki ((Ga (t+(1:Int))))) r1))
  (ke (.inr (())))
 o:=fun Z p e K=>Sum.elim (fun e=>K .ret ⟨[],[],⟨[.fb [.all 1,.all 2,.all 3],.cells .bool p.2.1,.cells (.pair .bool .bool) p.2.2.1,.cells ja p.t3.1,.loop 240002 [(3,.ptr 5 0),(4,.ptr 9 0)] .done .ret,.fb [.all 6,.all 7,.all 8],.cells .bool p.t4.1,.cells (.pair .bool .bool) p.t5.1,.cells ja p.t6.1,.fb [.bool false]],0⟩,10⟩) (fun e=>K (.exit 6) ⟨[],[],⟨[.fb [.all 1,.all 2,.all 3],.cells .bool p.2.1,.cells (.pair .bool .bool) p.2.2.1,.cells ja p.t3.1,.loop 240002 [(3,.ptr 5 0),(4,.ptr 9 0)] .ready .normal,.fb [.all 6,.all 7,.all 8],.cells .bool p.t4.1,.cells (.pair .bool .bool) p.t5.1,.cells ja p.t6.1,.fb [.bool p.t7]],0⟩,10⟩) e
 Je:=⟨[0,54,55,56],[],[],[]⟩
 pe:=[(.ret,⟨[],[],[],[]⟩),(.exit 6,⟨[],[],[],[]⟩)]
def Zy {X:Type} (a:Y35) (K:(Unit) ⊕ (Unit)->Option X):Option X:=
 (Oa (qj.m ((nt (fa a.1)),a)) 0).bind fun e1=>
 Sum.elim (fun e2=>K (.inl ()))
 (fun e3=>(Oa (nj.m ((nt (fa a.2.1)),a)) 0).bind fun e4=>
 Sum.elim (fun e5=>K (.inl ()))
 (fun e6=>(Oa (Kh.m ((nt (fa a.2.2.1)),a)) 0).bind fun e7=>
 Sum.elim (fun e8=>K (.inl ()))
 (fun e9=>K (.inr (()))) e7) e4) e1
def Sq:=fun a=>Zy a some
def oW:Spec:=qN.sp Sq
noncomputable def Vj:Env:=⟨fun k=>[].contains k,ir [] [(240002,xz)],fun X k s K=>if k=1 then qj.q X s K else if k=9 then Jf.q X s K else if k=6 then nj.q X s K else if k=15 then Kh.q X s K else none⟩
noncomputable def HK:Code:=Lb [0,1,0,0] (vb Tryz.f69)
theorem gI (hc:Sa C Vj.call):Va Vj.loop (vc par C true [6,10] 66) (.loop HK):=
 lO hc qj (by intros;simp only [qj,LD.m,nn])
noncomputable def FK:Code:=Lb [1,0,1,0,0,1,1,0,0,1,1,0,0] (vb Tryz.f69)
theorem eI (hc:Sa C Vj.call):Va Vj.loop (vc par C true [6,10] 66) (.loop FK):=
 lO hc Jf (by intros;simp only [Jf,LD.m,nn])
noncomputable def GK:Code:=Lb [1,0,1,0,0] (vb Tryz.f69)
theorem fI (hc:Sa C Vj.call):Va Vj.loop (vc par C true [6,10] 66) (.loop GK):=
 lO hc nj (by intros;simp only [nj,LD.m,nn]) (hl:=(Yc (by kernel_rfl) (Db (eI hc) Bc)))
noncomputable def iI:Code:=Lb [1,1,1,0,0] (vb Tryz.f69)
theorem GF (hc:Sa C Vj.call):Va Vj.loop (vc par C true [6,10] 66) (.loop iI):=
 lO hc Kh (by intros;simp only [Kh,LD.m,nn])
theorem pW:OK (5) 69 (qN.sp Sq):=
 fO (d:=4) (env:=Vj) (uj cn (ccy sJ cyn)) (fn:=Tryz.f69) (mc:=@Zy) (by intros;simp only [Sq,Zy,nn]) (za:=[6,10]) (hl:=fun hc=>(Yc (by kernel_rfl) (Db (gI hc) (Db (fI hc) (Db (GF hc) Bc)))))
def x7:FS (Y37) (Bool) where
 sk:=⟨(.cons (.agg (.cons (.all 0) (.cons (.all 1) (.cons (.all 2) .nil)))) (.cons (.agg (.cons (.all 3) (.cons (.all 4) (.cons (.all 5) .nil)))) .nil)),[.cells .bool,.cells (.pair .bool .bool),.cells ja,.cells .bool,.cells (.pair .bool .bool),.cells ja],0⟩
 a:=fun u=>(u.2.1,u.2.2.1,u.t3.1,u.t4.1,u.t5.1,u.t6.1)
 n:=fun a=>((((),((),((),()))),(((),((),((),()))),())),(w6 a))
 o:=fun Z a r K=>K (.bool r) ⟨[.cells .bool a.1,.cells (.pair .bool .bool) a.2.1,.cells ja a.2.2.1,.cells .bool a.t3.1,.cells (.pair .bool .bool) a.t4.1,.cells ja a.t5],0⟩
def NA:PD (((List Bool)×(Y38))×Bool) ((Unit) ⊕ (Unit)) where
 sk:=⟨[(3,.v (.ptr 6 0)),(4,.v (.ptr 7 0)),(7,.v (.fn 69 (.cons (.ptr 8 0) .nil)))],[],[.cells .bool,.cells (.pair .bool .bool),.cells ja,.cells .bool,.cells (.pair .bool .bool),.cells ja,.fb Z4,.fb (.cons .bool .nil),.fb (.cons (.all 0) (.cons (.all 1) (.cons (.all 2) .nil)))],0,6⟩
 p:=fun u=>((q6 u.2.2),u.t9.1.1)
 n:=fun p=>(((),((),(((),()),()))),((),(p.1.1,(p.1.2.1,(p.1.2.2.1,(p.1.t3.1,(p.1.t4.1,(p.1.t5,(((),((),((),()))),((p.2,()),(((),((),((),()))),())))))))))))
 st:=fun Y p ke=>(Sq (p.1.1,p.1.2.1,p.1.2.2.1,p.1.2.2.2.1,p.1.2.2.2.2.1,p.1.2.2.2.2.2,p.2)).bind fun r1=>
  Sum.elim (fun r2=>ke (.inl ()))
  (fun r3=>ke (.inr (()))) r1
 o:=fun Z p e K=>Sum.elim (fun e=>K .ret ⟨[(4,.v (.ptr 6 0))],[],⟨[.cells .bool p.1.1,.cells (.pair .bool .bool) p.1.2.1,.cells ja p.1.2.2.1,.cells .bool p.1.t3.1,.cells (.pair .bool .bool) p.1.t4.1,.cells ja p.1.t5,.fb [.bool false]],0⟩,6⟩) (fun e=>K .normal ⟨[(4,.v (.ptr 6 0))],[],⟨[.cells .bool p.1.1,.cells (.pair .bool .bool) p.1.2.1,.cells ja p.1.2.2.1,.cells .bool p.1.t3.1,.cells (.pair .bool .bool) p.1.t4.1,.cells ja p.1.t5,.fb [.bool p.2]],0⟩,6⟩) e
 Je:=⟨[3,4,7],[],[],[]⟩
 pe:=[(.ret,⟨[4],[],[],[]⟩),(.normal,⟨[4],[],[],[]⟩)]
def XN {X:Type} (a:Y37) (K:Bool->Option X):Option X:=
 (NA.m (a,false)).bind fun e1=>
 Sum.elim (fun e2=>K false)
 (fun e3=>K true) e1
def OA:=fun a=>XN a some
def xaa:Spec:=x7.sp OA
noncomputable def WN:Env:=⟨fun k=>[].contains k,Cb [(43,BI),(69,oW)],fun X k s K=>if k=2 then NA.q X s K else none⟩
theorem eR (hc:Sa C WN.call):Va WN.loop (vc par C true [] 13) (.rangeFunc (rfG (Lb [1,0,1,0] (vb Tryz.f24))) (bP (Lb [1,0,1,0] (vb Tryz.f24))) (rfA (Lb [1,0,1,0] (vb Tryz.f24))) (rfB (Lb [1,0,1,0] (vb Tryz.f24)))):=
 rO (env:=WN) hc (id:=240002) (ks:=[3,4]) NA (by intros;simp only [NA,PD.m,nn])
theorem yaa:OK (6) 24 (x7.sp OA):=
 fO (d:=5) (env:=WN) (Aa (cc DI (cc pW cn))) (fn:=Tryz.f24) (mc:=@XN) (by intros;simp only [OA,XN,nn]) (hl:=fun hc=>(Yc (by kernel_rfl) (Db (eR hc) Bc)))
def y7:FS (Y31) ((List Int)) where
 sk:=⟨(.cons (.agg tc) (.cons (.lit (.slice (.int .i64))) (.cons (.int .i64) .nil))),[],0⟩
 a:=fun u=>((q8 u.1.1),u.1.2.1,u.1.2.2.1)
 n:=fun a=>(((w8 a.1),(a.2.1,(a.2.2,()))),())
 o:=fun Z a r K=>K (.lit (.int .i64) r) ⟨[],0⟩
def Pp:LD ((Y39)×(List (List Int))×Int×Ba) (Int×(List (Int×Pa))) ((List (Int×Pa))) where
 sk:=⟨[(1,.v (.lit (.slice (.int .i64)))),(2,.v (.int .i64)),(3,.loc 0 0),(7,.v (.mp 0)),(23,.v (.lit (.slice (.int .i64)))),(24,.v (.int .i64)),(25,.v (.int .i64))],[tc],[.ah (.int .i64) true Dj],0,0⟩
 p:=fun u=>((u.1.1,u.1.2.1),u.1.t3.1,u.1.t4.1,(q8 u.2.1.1))
 t:=fun u=>(u.1.t5.1,u.2.2.1)
 n:=fun p t=>((p.1.1,(p.1.2,((),(p.2.1,(p.2.2.1,(t.1,())))))),(((w8 p.t3),()),(t.2,())))
 st:=fun Y p t ki ke=>cond (decide (t.1<p.2.2.1))
  (ask (V.va t.1 (fa p.2.1)) ((Lx (p.2.2.2,(gx p.2.1 (ga t.1) []),p.1.2)).bind fun r1=>
  ki ((Ga (t.1+(1:Int))),(Lv (k:=(.int .i64)) t.1 r1.1 t.2))))
  (ke (t.2))
 o:=fun Z p e K=>K (.exit 0) ⟨[(1,.v (.lit (.slice (.int .i64)) p.1.1)),(3,.loc 0 0),(7,.v (.mp 0))],[[.lit zb p.t3.1,.int .i64 p.t4.1,.int .i64 p.t5.1,.int .i64 p.t6.1,.lit Na p.t7.1,.lit yb p.t8.1,.lit Na p.t9.1,.lit ja p.t10]],⟨[.ah (.int .i64) true Dj e],0⟩,0⟩
 Je:=⟨[1,2,3,7,23,24,25],[],[],[]⟩
 pe:=[(.exit 0,⟨[1,3,7],[],[],[]⟩)]
def Zj:LD ((List (List Int))×Int×Ba×((List (Int×Pa))×((List (Int×Pa))×((List Int)×Pa)))) (Int×Int×Int) (Int) where
 sk:=⟨[(1,.v (.lit (.slice (.int .i64)))),(3,.loc 0 0),(7,.v (.mp 0)),(10,.v (.mp 1)),(11,.loc 1 0),(12,.v (.all 2)),(13,.v (.int .i64)),(14,.v (.int .i64)),(45,.v (.int .i64)),(46,.v (.int .i64))],[tc,(.cons (.all 3) (.cons (.all 4) (.cons (.all 5) .nil)))],[.ah (.int .i64) true Dj,.ah (.int .i64) true Dj,.cells (.int .i64),.cells .bool,.cells (.pair .bool .bool),.cells ja],0,0⟩
 p:=fun u=>(u.1.1,u.1.t6.1,(q8 u.2.1.1),(q6 u.2.2))
 t:=fun u=>(u.1.t4.1,u.1.t5.1,u.1.t7.1)
 n:=fun p t=>((p.1,((),((),((),(t.1,(t.2.1,(p.2.1,(t.2.2,())))))))),(((w8 p.2.2.1),(((),((),((),()))),())),(w6 p.t3)))
 st:=fun Y p t ki ke=>cond (decide (t.2.2<p.2.1))
  (cond (uA (k:=(.int .i64)) t.2.2 p.2.2.2.1)
  ((IA ((Ps (k:=(.int .i64)) t.2.2 Pn p.2.2.2.1),p.2.2.2.2.2.2.1,p.2.2.2.2.2.2.2.1,p.2.2.2.2.2.2.2.2)).bind fun r1=>
  cond (decide (t.2.1<r1))
  ((IA ((Ps (k:=(.int .i64)) t.2.2 Pn p.2.2.2.1),p.2.2.2.2.2.2.1,p.2.2.2.2.2.2.2.1,p.2.2.2.2.2.2.2.2)).bind fun r2=>
  ki (t.2.2,r2,(Ga (t.2.2+(1:Int)))))
  (ki (t.1,t.2.1,(Ga (t.2.2+(1:Int))))))
  (ki (t.1,t.2.1,(Ga (t.2.2+(1:Int))))))
  (ke (t.1))
 o:=fun Z p e K=>K (.exit 4) ⟨[(1,.v (.lit (.slice (.int .i64)) p.1)),(3,.loc 0 0),(7,.v (.mp 0)),(10,.v (.mp 1)),(11,.loc 1 0),(12,.v (.all 2)),(13,.v (.int .i64 e))],[[.lit zb p.2.2.1.1,.int .i64 p.2.2.1.2.1,.int .i64 p.2.2.1.2.2.1,.int .i64 p.2.2.1.t3.1,.lit Na p.2.2.1.t4.1,.lit yb p.2.2.1.t5.1,.lit Na p.2.2.1.t6.1,.lit ja p.2.2.1.t7],[.all 3,.all 4,.all 5]],⟨[.ah (.int .i64) true Dj p.t3.1,.ah (.int .i64) true Dj p.t4.1,.cells (.int .i64) p.t5.1,.cells .bool p.t6.1,.cells (.pair .bool .bool) p.t7.1,.cells ja p.t8],0⟩,0⟩
 Je:=⟨[1,3,7,10,11,12,13,14,45,46],[],[],[]⟩
 pe:=[(.exit 4,⟨[1,3,7,10,11,12,13],[],[],[]⟩)]
def Al:LD ((List (List Int))×Ba) ((List (Int×Pa))×(List (Int×Pa))×(List Int)×(List Bool)×(List (Bool×Bool))×(List Ra)) ((List (Int×Pa))×(List Int)×(List Bool)×(List (Bool×Bool))×(List Ra)) where
 sk:=⟨[(1,.v (.lit (.slice (.int .i64)))),(3,.loc 0 0),(7,.v (.mp 0)),(10,.v (.mp 1)),(11,.loc 1 0),(12,.v (.all 2))],[tc,(.cons (.all 3) (.cons (.all 4) (.cons (.all 5) .nil)))],[.ah (.int .i64) true Dj,.ah (.int .i64) true Dj,.cells (.int .i64),.cells .bool,.cells (.pair .bool .bool),.cells ja],0,0⟩
 p:=fun u=>(u.1.1,(q8 u.2.1.1))
 t:=fun u=>(u.2.2.1,u.t3.1,u.t4.1,u.t5.1,u.t6.1,u.t7.1)
 n:=fun p t=>((p.1,((),((),((),())))),(((w8 p.2),(((),((),((),()))),())),(w6 t)))
 st:=fun Y p t ki ke=>(Oa (Zj.m (p.1,(nt (fa p.1)),p.2,t)) ((-1),0,0)).bind fun e1=>
  cond (decide (e1<(0:Int)))
  (ke ((t.2.1,t.2.2.1,t.2.2.2.1,t.2.2.2.2.1,t.2.2.2.2.2)))
  (ask (decide (((fa t.2.2.1)+(fa ([e1]:List Int))) * 8<=70368744177664)&&decide (((fa t.2.2.1)+(fa ([e1]:List Int)))<9223372036854775808)) (cond (uA (k:=(.int .i64)) e1 t.1)
  (cond (uA (k:=(.int .i64)) e1 t.1)
  ((Sr ((Ps (k:=(.int .i64)) e1 Pn t.1),t.2.2.2.1,t.2.2.2.2.1,t.2.2.2.2.2)).bind fun r2=>
  ki ((xy (k:=(.int .i64)) e1 t.1),(Lv (k:=(.int .i64)) e1 (Ps (k:=(.int .i64)) e1 Pn t.1) t.2.1),(t.2.2.1++([e1]:List Int)),r2.1,r2.2.1,r2.2.2))
  ((Xq (t.2.2.2.1,t.2.2.2.2.1,t.2.2.2.2.2)).bind fun r3=>
  ki ((xy (k:=(.int .i64)) e1 t.1),(Lv (k:=(.int .i64)) e1 (Ps (k:=(.int .i64)) e1 Pn t.1) t.2.1),(t.2.2.1++([e1]:List Int)),r3.1,r3.2.1,r3.2.2)))
  (cond (uA (k:=(.int .i64)) e1 t.1)
  ((Sr ((Ps (k:=(.int .i64)) e1 Pn t.1),t.2.2.2.1,t.2.2.2.2.1,t.2.2.2.2.2)).bind fun r4=>
  ki ((xy (k:=(.int .i64)) e1 t.1),(Lv (k:=(.int .i64)) e1 ([],([],[])) t.2.1),(t.2.2.1++([e1]:List Int)),r4.1,r4.2.1,r4.2.2))
  ((Xq (t.2.2.2.1,t.2.2.2.2.1,t.2.2.2.2.2)).bind fun r5=>
  ki ((xy (k:=(.int .i64)) e1 t.1),(Lv (k:=(.int .i64)) e1 ([],([],[])) t.2.1),(t.2.2.1++([e1]:List Int)),r5.1,r5.2.1,r5.2.2)))))
 o:=fun Z p e K=>K (.exit 2) ⟨[(3,.loc 0 0),(10,.v (.mp 0)),(11,.loc 1 0),(12,.v (.all 1))],[[.lit zb p.2.1,.int .i64 p.2.2.1,.int .i64 p.t3.1,.int .i64 p.t4.1,.lit Na p.t5.1,.lit yb p.t6.1,.lit Na p.t7.1,.lit ja p.t8],[.all 2,.all 3,.all 4]],⟨[.ah (.int .i64) true Dj e.1,.cells (.int .i64) e.2.1,.cells .bool e.2.2.1,.cells (.pair .bool .bool) e.t3.1,.cells ja e.t4],0⟩,0⟩
 Je:=⟨[1,3,7,10,11,12],[(12,(.own (.int .i64)))],[],[]⟩
 pe:=[(.exit 2,⟨[3,10,11,12],[],[],[]⟩)]
def vl:LD (Int×Int×Ba×(List (Int×Pa))×(List Int)×Pa) (zO) (Y3) where
 sk:=⟨[(3,.loc 0 0),(10,.v (.mp 0)),(11,.loc 1 0),(12,.v (.all 1)),(18,.v (.int .i64)),(19,.loc 2 0),(95,.v (.all 1)),(96,.v (.int .i64)),(97,.v (.int .i64))],[tc,(.cons (.all 2) (.cons (.all 3) (.cons (.all 4) .nil))),(.cons (.all 5) (.cons (.all 6) (.cons (.all 7) .nil)))],[.ah (.int .i64) true Dj,.cells (.int .i64),.cells .bool,.cells (.pair .bool .bool),.cells ja,.cells .bool,.cells (.pair .bool .bool),.cells ja],0,0⟩
 p:=fun u=>(u.1.2.2.1,u.1.t4.1,(q8 u.2.1.1),u.2.2.1,u.t3.1,(q3 u.t4))
 t:=fun u=>(u.1.t5.1,u.t7.1,u.t8.1,u.t9.1)
 n:=fun p t=>(((),((),(p.1,((),(p.2.1,(t.1,())))))),(((w8 p.2.2.1),(((),((),((),()))),(((),((),((),()))),()))),(p.t3.1,(p.t4.1,(p.t5.1,(p.t6.1,(p.t7,(w3 t.2))))))))
 st:=fun Y p t ki ke=>cond (decide (t.1<p.2.1))
  (ask (V.va t.1 (fa p.2.2.2.2.1)) (cond (!(decide (t.1=p.1)))
  (cond (uA (k:=(.int .i64)) (gx p.2.2.2.2.1 (ga t.1) (0:Int)) p.2.2.2.1)
  ((Sr ((Ps (k:=(.int .i64)) (gx p.2.2.2.2.1 (ga t.1) (0:Int)) Pn p.2.2.2.1),t.2.1,t.2.2.1,t.2.2.2)).bind fun r1=>
  ki ((Ga (t.1+(1:Int))),r1.1,r1.2.1,r1.2.2))
  ((Xq (t.2.1,t.2.2.1,t.2.2.2)).bind fun r2=>
  ki ((Ga (t.1+(1:Int))),r2.1,r2.2.1,r2.2.2)))
  (ki ((Ga (t.1+(1:Int))),t.2.1,t.2.2.1,t.2.2.2))))
  (ke ((t.2.1,t.2.2.1,t.2.2.2)))
 o:=fun Z p e K=>K (.exit 8) ⟨[(3,.loc 0 0),(10,.v (.mp 0)),(11,.loc 1 0),(12,.v (.all 1)),(18,.v (.int .i64 p.1)),(19,.loc 2 0)],[[.lit zb p.2.2.1.1,.int .i64 p.2.2.1.2.1,.int .i64 p.2.2.1.2.2.1,.int .i64 p.2.2.1.t3.1,.lit Na p.2.2.1.t4.1,.lit yb p.2.2.1.t5.1,.lit Na p.2.2.1.t6.1,.lit ja p.2.2.1.t7],[.all 2,.all 3,.all 4],[.all 5,.all 6,.all 7]],⟨[.ah (.int .i64) true Dj p.t3.1,.cells (.int .i64) p.t4.1,.cells .bool p.t5.1,.cells (.pair .bool .bool) p.t6.1,.cells ja p.t7,.cells .bool e.1,.cells (.pair .bool .bool) e.2.1,.cells ja e.2.2],0⟩,0⟩
 Je:=⟨[3,10,11,12,18,19,95,96,97],[],[],[]⟩
 pe:=[(.exit 8,⟨[3,10,11,12,18,19],[],[],[]⟩)]
def xl:LD (Ba×(List (Int×Pa))×Pa) (Int×(List Int)) ((List Int)) where
 sk:=⟨[(3,.loc 0 0),(10,.v (.mp 0)),(11,.loc 1 0),(12,.v (.all 1)),(18,.v (.int .i64))],[tc,(.cons (.all 2) (.cons (.all 3) (.cons (.all 4) .nil)))],[.ah (.int .i64) true Dj,.cells (.int .i64),.cells .bool,.cells (.pair .bool .bool),.cells ja],0,0⟩
 p:=fun u=>((q8 u.2.1.1),u.2.2.1,(q3 u.t4))
 t:=fun u=>(u.1.2.2.1,u.t3.1)
 n:=fun p t=>(((),((),(t.1,()))),(((w8 p.1),(((),((),((),()))),())),(p.2.1,(t.2,(w3 p.2.2)))))
 st:=fun Y p t ki ke=>cond (decide ((0:Int)<=t.1))
  ((Tr p.1).bind fun r1=>
  (Oa (vl.m (t.1,(nt (fa t.2)),p.1,p.2.1,t.2,p.2.2)) (0,r1.1,r1.2.1,r1.2.2)).bind fun e2=>
  (OA (p.2.2.1,p.2.2.2.1,p.2.2.2.2,e2.1,e2.2.1,e2.2.2)).bind fun r3=>
  cond r3
  ((vD (t.1,(Ga (t.1+(1:Int))),t.2)).bind fun r4=>
  ki ((Ga (t.1-(1:Int))),r4))
  (ki ((Ga (t.1-(1:Int))),t.2)))
  (ke (t.2))
 o:=fun Z p e K=>K (.exit 6) ⟨[(12,.v (.all 0))],[],⟨[.cells (.int .i64) e],0⟩,0⟩
 Je:=⟨[3,10,11,12,18],[],[],[]⟩
 pe:=[(.exit 6,⟨[12],[],[],[]⟩)]
def bO {X:Type} (a:Y31) (K:(List Int)->Option X):Option X:=
 (Oa (Pp.m (a.2,a.2.1,(nt (fa a.2.1)),a.1)) (0,([]:List (Int×Pa)))).bind fun e1=>
 (Tr a.1).bind fun r2=>
 (Oa (Al.m (a.2.1,a.1)) (e1,([]:List (Int×Pa)),[],r2.1,r2.2.1,r2.2.2)).bind fun e3=>
 (Oa (xl.m (a.1,e3.1,e3.2.2)) ((Ga ((nt (fa e3.2.1))-(1:Int))),e3.2.1)).bind fun e4=>
 (AI e4).bind fun r5=>
 K r5
def Mx:=fun a=>bO a some
def KX:Spec:=y7.sp Mx
noncomputable def Qp:Env:=⟨fun k=>[].contains k,Cb [(37,mL),(14,YF),(44,R_),(23,(alt IX.tk wL GX)),(24,xaa),(45,ZW),(46,YW)],fun X k s K=>if k=3 then Pp.q X s K else if k=12 then Zj.q X s K else if k=10 then Al.q X s K else if k=28 then vl.q X s K else if k=24 then xl.q X s K else none⟩
noncomputable def MX:Code:=Lb [1,1,0,1,0,0] (vb Tryz.f21)
theorem lR (hc:Sa C Qp.call):Va Qp.loop (vc par C true [3,11,16,19] 122) (.loop MX):=
 lO hc Pp (by intros;simp only [Pp,LD.m,nn])
noncomputable def oR:Code:=Lb [1,1,1,1,1,1,0,0,0,0,1,0,1,0,0] (vb Tryz.f21)
theorem BL (hc:Sa C Qp.call):Va Qp.loop (vc par C true [3,11,16,19] 122) (.loop oR):=
 lO hc Zj (by intros;simp only [Zj,LD.m,nn])
noncomputable def pR:Code:=Lb [1,1,1,1,1,1,0,0,0] (vb Tryz.f21)
theorem CL (hc:Sa C Qp.call):Va Qp.loop (vc par C true [3,11,16,19] 122) (.loop pR):=
 lO hc Al (by intros;simp only [Al,LD.m,nn]) (hl:=(Yc (by kernel_rfl) (Db (BL hc) Bc)))
noncomputable def mR:Code:=Lb [1,1,1,1,1,1,1,0,1,0,0,1,0,0,1,0,1,0,0] (vb Tryz.f21)
theorem zL (hc:Sa C Qp.call):Va Qp.loop (vc par C true [3,11,16,19] 122) (.loop mR):=
 lO hc vl (by intros;simp only [vl,LD.m,nn])
noncomputable def nR:Code:=Lb [1,1,1,1,1,1,1,0,1,0,0] (vb Tryz.f21)
theorem AL (hc:Sa C Qp.call):Va Qp.loop (vc par C true [3,11,16,19] 122) (.loop nR):=
 lO hc xl (by intros;simp only [xl,LD.m,nn]) (hl:=(Yc (by kernel_rfl) (Db (zL hc) Bc)))
theorem LX:OK (7) 21 (y7.sp Mx):=
 fO (d:=6) (env:=Qp) (Aa (cc nL (cc ZF (cc S_ (cA xL (cc HX (cc yaa (cc Q_ (cc P_ cn))))))))) (fn:=Tryz.f21) (mc:=@bO) (by intros;simp only [Mx,bO,nn]) (za:=[3,11,16,19]) (sh:=(.lit (.int .i64))) (fz:=true) (hl:=fun hc=>(Yc (by kernel_rfl) (Db (lR hc) (Db (CL hc) (Db (AL hc) Bc)))))
def B7:FS (Y40) (Bool) where
 sk:=⟨(.cons (.lit (.int .i64)) (.cons (.lit (.int .i64)) .nil)),[],0⟩
 a:=fun u=>(u.1.1,u.1.2.1)
 n:=fun a=>((a.1,(a.2,())),())
 o:=fun Z a r K=>K (.bool r) ⟨[],0⟩
def UF:LD ((Y40)) (Int) ((Unit) ⊕ (Unit)) where
 sk:=⟨[(0,.v (.lit (.int .i64))),(1,.v (.lit (.int .i64))),(5,.v (.int .i64))],[],[],0,0⟩
 p:=fun u=>(u.1.1,u.1.2.1)
 t:=fun u=>u.1.2.2.1
 n:=fun p t=>((p.1,(p.2,(t,()))),((),()))
 st:=fun Y p t ki ke=>cond (decide (t<(nt (fa p.1))))
  (ask (V.va t (fa p.1)) (ask (V.va t (fa p.2)) (cond (!(decide ((gx p.1 (ga t) (0:Int))=(gx p.2 (ga t) (0:Int)))))
  (ke (.inl ()))
  (ki ((Ga (t+(1:Int))))))))
  (ke (.inr (())))
 o:=fun Z p e K=>Sum.elim (fun e=>K .ret ⟨[(4,.v (.bool false))],[],⟨[],0⟩,0⟩) (fun e=>K (.exit 0) ⟨[],[],⟨[],0⟩,0⟩) e
 Je:=⟨[0,1,5],[],[],[]⟩
 pe:=[(.ret,⟨[4],[],[],[]⟩),(.exit 0,⟨[],[],[],[]⟩)]
def PX {X:Type} (a:Y40) (K:Bool->Option X):Option X:=
 cond (!(decide ((nt (fa a.1))=(nt (fa a.2)))))
 (K false)
 ((Oa (UF.m a) 0).bind fun e1=>
 Sum.elim (fun e2=>K false)
 (fun e3=>K true) e1)
def cO:=fun a=>PX a some
def Baa:Spec:=B7.sp cO
noncomputable def OX:Env:=⟨fun k=>[].contains k,Cb [],fun X k s K=>if k=4 then UF.q X s K else none⟩
noncomputable def NX:Code:=Lb [1,1,0,1,0,0] (vb Tryz.f20)
theorem qR (hc:Sa C OX.call):Va OX.loop (vc par C true [] 26) (.loop NX):=
 lO hc UF (by intros;simp only [UF,LD.m,nn])
theorem Caa:OK (1) 20 (B7.sp cO):=
 fO (d:=0) (env:=OX) (Aa cn) (fn:=Tryz.f20) (mc:=@PX) (by intros;simp only [cO,PX,nn]) (hl:=fun hc=>(Yc (by kernel_rfl) (Db (qR hc) Bc)))
def y6:FS (Int) (ByteArray) where
 sk:=⟨(.cons (.int .i64) .nil),[],0⟩
 a:=fun u=>u.1.1
 n:=fun a=>((a,()),())
 o:=fun Z a r K=>K (.str r) ⟨[],0⟩
def CW {X:Type} (a:Int) (K:ByteArray->Option X):Option X:=
 (eG (a,10)).bind fun r1=>
 K r1
def vN:=fun a=>CW a some
def v_:Spec:=y6.sp vN
noncomputable def kae:Env:=⟨fun k=>[].contains k,Cb [(103,oO)],fun X k s K=>none⟩
theorem w_:OK (2) 68 (y6.sp vN):=
 fO (d:=1) (env:=kae) (Aa (cc O3 cn)) (fn:=Tryz.f68) (mc:=@CW) (by intros;simp only [vN,CW,nn])
def W6:FS (Int) (ByteArray) where
 sk:=⟨(.cons (.int .i64) .nil),[],0⟩
 a:=fun u=>u.1.1
 n:=fun a=>((a,()),())
 o:=fun Z a r K=>K (.str r) ⟨[],0⟩
def pX {X:Type} (a:Int) (K:ByteArray->Option X):Option X:=
 (vN a).bind fun r1=>
 K r1
def Gp:=fun a=>pX a some
def mX:Spec:=W6.sp Gp
noncomputable def wae:Env:=⟨fun k=>[].contains k,Cb [(68,v_)],fun X k s K=>none⟩
theorem nX:OK (3) 39 (W6.sp Gp):=
 fO (d:=2) (env:=wae) (Aa (cc w_ cn)) (fn:=Tryz.f39) (mc:=@pX) (by intros;simp only [Gp,pX,nn])
def V6:FS (ByteArray×Int×Int) (ByteArray) where
 sk:=⟨u0,[],0⟩
 a:=fun u=>(u.1.1,u.1.2.1,u.1.2.2.1)
 n:=fun a=>((w3 a),())
 o:=fun Z a r K=>K (.str r) ⟨[],0⟩
def lX {X:Type} (a:ByteArray×Int×Int) (K:ByteArray->Option X):Option X:=
 ask (decide (Qa a.1+Qa (str [32])<=9223372036854775807)) ((Gp a.2.1).bind fun r1=>
 ask (decide (Qa (a.1++(str [32]))+Qa r1<=9223372036854775807)) (ask (decide (Qa ((a.1++(str [32]))++r1)+Qa (str [32,111,102,32])<=9223372036854775807)) ((Gp a.2.2).bind fun r2=>
 ask (decide (Qa (((a.1++(str [32]))++r1)++(str [32,111,102,32]))+Qa r2<=9223372036854775807)) (ask (decide (Qa ((((a.1++(str [32]))++r1)++(str [32,111,102,32]))++r2)+Qa (str [10])<=9223372036854775807)) (K (((((a.1++(str [32]))++r1)++(str [32,111,102,32]))++r2)++(str [10])))))))
def EI:=fun a=>lX a some
def V_:Spec:=V6.sp EI
noncomputable def vae:Env:=⟨fun k=>[].contains k,Cb [(39,mX)],fun X k s K=>none⟩
theorem W_:OK (4) 40 (V6.sp EI):=
 fO (d:=3) (env:=vae) (Aa (cc nX cn)) (fn:=Tryz.f40) (mc:=@lX) (by intros;simp only [EI,lX,nn])
def D7:FS (Y41) (ByteArray) where
 sk:=⟨(.cons (.agg tc) (.cons (.agg (.cons (.all 0) (.cons (.all 1) (.cons (.all 2) .nil)))) .nil)),[.cells .bool,.cells (.pair .bool .bool),.cells ja],0⟩
 a:=fun u=>((q8 u.1.1),u.2.1,u.2.2.1,u.t3.1)
 n:=fun a=>(((w8 a.1),(((),((),((),()))),())),(w3 a.2))
 o:=fun Z a r K=>K (.str r) ⟨[.cells .bool a.2.1,.cells (.pair .bool .bool) a.2.2.1,.cells ja a.t3],0⟩
def VF:LD (Int×Int×Int×Int×(List Fb)×Int×Int×(Bool×Bool)×Ba×Fb×Pa×ByteArray) (Int×Int) (Int) where
 sk:=⟨[(2,.loc 0 0),(3,.loc 1 0),(5,.v (.int .i64)),(6,.v (.int .i64)),(7,.v (.int .i64)),(8,.v (.ptr 3 0)),(9,.v (.int .i64)),(10,.loc 2 0),(11,.v (.int .i64)),(20,.v (.lit zb)),(21,.v (.int .i64)),(22,.v (.int .i64)),(31,.v (.agg (.cons .bool (.cons .bool .nil)))),(32,.v (.int .i64))],[tc,(.cons (.all 0) (.cons (.all 1) (.cons (.all 2) .nil))),Wc],[.cells .bool,.cells (.pair .bool .bool),.cells ja,.Fl (.all 4),.ko],0,3⟩
 p:=fun u=>(u.1.1,u.1.2.1,u.1.2.2.1,u.1.t4.1,u.1.t6.1,u.1.t7.1,u.1.t8.1,(u.1.t9.1.1,u.1.t9.1.2.1),(q8 u.2.1.1),(q8 u.2.1.2.2.1),(q3 u.2.2),u.t6.1)
 t:=fun u=>(u.1.t5.1,u.1.t10.1)
 n:=fun p t=>((p.1,(p.2.1,(p.2.2.1,((),(p.t3.1,(t.1,(p.t4.1,(p.t5.1,(p.t6.1,((p.t7.1.1,(p.t7.1.2,())),(t.2,()))))))))))),(((w8 p.t8.1),(((),((),((),()))),((w8 p.t9.1),()))),(p.t10.1.1,(p.t10.1.2.1,(p.t10.1.2.2,((),(p.t11,())))))))
 st:=fun Y p t ki ke=>cond (decide (t.2<(2:Int)))
  (cond (decide (t.2=(0:Int)))
  (cond p.2.2.2.2.2.2.2.1.1
  (ki ((Ga (t.1+(1:Int))),(Ga (t.2+(1:Int)))))
  (ki (t.1,(Ga (t.2+(1:Int))))))
  (cond (decide (t.2=(1:Int)))
  (cond p.2.2.2.2.2.2.2.1.2
  (ki ((Ga (t.1+(1:Int))),(Ga (t.2+(1:Int)))))
  (ki (t.1,(Ga (t.2+(1:Int))))))
  (none)))
  (ke (t.1))
 o:=fun Z p e K=>K (.exit 2) ⟨[(2,.loc 0 0),(3,.loc 1 0),(5,.v (.int .i64 p.1)),(6,.v (.int .i64 p.2.1)),(7,.v (.int .i64 p.2.2.1)),(8,.v (.ptr 3 0)),(9,.v (.int .i64 p.t3.1)),(10,.loc 2 0),(11,.v (.int .i64 e)),(20,.v (.lit zb p.t4.1)),(21,.v (.int .i64 p.t5.1)),(22,.v (.int .i64 p.t6.1))],[[.lit zb p.t8.1.1,.int .i64 p.t8.1.2.1,.int .i64 p.t8.1.2.2.1,.int .i64 p.t8.1.t3.1,.lit Na p.t8.1.t4.1,.lit yb p.t8.1.t5.1,.lit Na p.t8.1.t6.1,.lit ja p.t8.1.t7],[.all 0,.all 1,.all 2],[.int .i64 p.t9.1.1,.int .i64 p.t9.1.2.1,.int .i64 p.t9.1.2.2.1,.int .i64 p.t9.1.t3.1,.int .i64 p.t9.1.t4.1,.int .i64 p.t9.1.t5.1,.int .i64 p.t9.1.t6.1,.int .i64 p.t9.1.t7]],⟨[.cells .bool p.t10.1.1,.cells (.pair .bool .bool) p.t10.1.2.1,.cells ja p.t10.1.2.2,.Fl (.all 4),.ko p.t11],0⟩,3⟩
 Je:=⟨[2,3,5,6,7,8,9,10,11,20,21,22,31,32],[],[],[]⟩
 pe:=[(.exit 2,⟨[2,3,5,6,7,8,9,10,11,20,21,22],[],[],[]⟩)]
def XF:LD ((List Fb)×Int×(Ba×Pa)) (Int×Int×Int×Int×ByteArray) (Int×Int×Int×ByteArray) where
 sk:=⟨[(2,.loc 0 0),(3,.loc 1 0),(5,.v (.int .i64)),(6,.v (.int .i64)),(7,.v (.int .i64)),(8,.v (.ptr 3 0)),(20,.v (.lit zb)),(21,.v (.int .i64)),(22,.v (.int .i64))],[tc,(.cons (.all 0) (.cons (.all 1) (.cons (.all 2) .nil)))],[.cells .bool,.cells (.pair .bool .bool),.cells ja,.Fl (.all 4),.ko],0,3⟩
 p:=fun u=>(u.1.t4.1,u.1.t5.1,((q8 u.2.1.1),(q3 u.2.2)))
 t:=fun u=>(u.1.1,u.1.2.1,u.1.2.2.1,u.1.t6.1,u.t6.1)
 n:=fun p t=>((t.1,(t.2.1,(t.2.2.1,((),(p.1,(p.2.1,(t.t3.1,()))))))),(((w8 p.2.2.1),(((),((),((),()))),())),(p.t3.1,(p.t4.1,(p.t5,((),(t.t4,())))))))
 st:=fun Y p t ki ke=>cond (decide (t.2.2.2.1<p.2.1))
  (ask (V.va t.2.2.2.1 (fa p.1)) (ask (V.va t.2.2.2.1 (fa p.2.2.2.2.1)) ((Oa (VF.m (t.1,t.2.1,t.2.2.1,t.2.2.2.1,p.1,p.2.1,t.2.2.2.1,(gx p.2.2.2.2.1 (ga t.2.2.2.1) (false,false)),p.2.2.1,(gx p.1 (ga t.2.2.2.1) Ta),p.2.2.2,t.2.2.2.2)) (0,0)).bind fun e1=>
  cond (decide ((gx p.1 (ga t.2.2.2.1) Ta).1=(15:Int)))
  (ask (V.va t.2.2.2.1 (fa p.2.2.2.1)) (cond (!(gx p.2.2.2.1 (ga t.2.2.2.1) false))
  ((Gp t.2.2.2.1).bind fun r2=>
  ask (decide (Qa (str [110,111,32])+Qa r2<=9223372036854775807)) (ask (decide (Qa ((str [110,111,32])++r2)+Qa (str [10])<=9223372036854775807)) ((Kx ((((str [110,111,32])++r2)++(str [10])),t.2.2.2.2)).bind fun r3=>
  ki (t.1,(Ga (t.2.1+e1)),(Ga (t.2.2.1+(2:Int))),(Ga (t.2.2.2.1+(1:Int))),r3.2))))
  (ki ((Ga (t.1+(1:Int))),(Ga (t.2.1+e1)),(Ga (t.2.2.1+(2:Int))),(Ga (t.2.2.2.1+(1:Int))),t.2.2.2.2))))
  (cond (decide ((gx p.1 (ga t.2.2.2.1) Ta).1=(21:Int)))
  (ask (V.va t.2.2.2.1 (fa p.2.2.2.1)) (cond (!(gx p.2.2.2.1 (ga t.2.2.2.1) false))
  ((Gp t.2.2.2.1).bind fun r4=>
  ask (decide (Qa (str [110,111,32])+Qa r4<=9223372036854775807)) (ask (decide (Qa ((str [110,111,32])++r4)+Qa (str [10])<=9223372036854775807)) ((Kx ((((str [110,111,32])++r4)++(str [10])),t.2.2.2.2)).bind fun r5=>
  ki (t.1,(Ga (t.2.1+e1)),t.2.2.1,(Ga (t.2.2.2.1+(1:Int))),r5.2))))
  (ki ((Ga (t.1+(1:Int))),(Ga (t.2.1+e1)),t.2.2.1,(Ga (t.2.2.2.1+(1:Int))),t.2.2.2.2))))
  (ask (V.va t.2.2.2.1 (fa p.2.2.2.1)) (cond (!(gx p.2.2.2.1 (ga t.2.2.2.1) false))
  ((Gp t.2.2.2.1).bind fun r6=>
  ask (decide (Qa (str [110,111,32])+Qa r6<=9223372036854775807)) (ask (decide (Qa ((str [110,111,32])++r6)+Qa (str [10])<=9223372036854775807)) ((Kx ((((str [110,111,32])++r6)++(str [10])),t.2.2.2.2)).bind fun r7=>
  ki (t.1,(Ga (t.2.1+e1)),(Ga (t.2.2.1+(1:Int))),(Ga (t.2.2.2.1+(1:Int))),r7.2))))
  (ki ((Ga (t.1+(1:Int))),(Ga (t.2.1+e1)),(Ga (t.2.2.1+(1:Int))),(Ga (t.2.2.2.1+(1:Int))),t.2.2.2.2))))))))
  (ke ((t.1,t.2.1,t.2.2.1,t.2.2.2.2)))
 o:=fun Z p e K=>K (.exit 0) ⟨[(2,.loc 0 0),(3,.loc 1 0),(5,.v (.int .i64 e.1)),(6,.v (.int .i64 e.2.1)),(7,.v (.int .i64 e.2.2.1)),(8,.v (.ptr 3 0))],[[.lit zb p.2.2.1.1,.int .i64 p.2.2.1.2.1,.int .i64 p.2.2.1.2.2.1,.int .i64 p.2.2.1.t3.1,.lit Na p.2.2.1.t4.1,.lit yb p.2.2.1.t5.1,.lit Na p.2.2.1.t6.1,.lit ja p.2.2.1.t7],[.all 0,.all 1,.all 2]],⟨[.cells .bool p.t3.1,.cells (.pair .bool .bool) p.t4.1,.cells ja p.t5,.Fl (.all 4),.ko e.t3],0⟩,3⟩
 Je:=⟨[2,3,5,6,7,8,20,21,22],[],[],[]⟩
 pe:=[(.exit 0,⟨[2,3,5,6,7,8],[],[],[]⟩)]
def jz:LD (Int×Int×Int×(List Fb)×Int×(Ba×Pa)) (Int×ByteArray) (ByteArray) where
 sk:=⟨[(2,.loc 0 0),(3,.loc 1 0),(5,.v (.int .i64)),(6,.v (.int .i64)),(7,.v (.int .i64)),(8,.v (.ptr 3 0)),(67,.v (.lit zb)),(68,.v (.int .i64)),(69,.v (.int .i64))],[tc,(.cons (.all 0) (.cons (.all 1) (.cons (.all 2) .nil)))],[.cells .bool,.cells (.pair .bool .bool),.cells ja,.Fl (.all 4),.ko],0,3⟩
 p:=fun u=>(u.1.1,u.1.2.1,u.1.2.2.1,u.1.t4.1,u.1.t5.1,((q8 u.2.1.1),(q3 u.2.2)))
 t:=fun u=>(u.1.t6.1,u.t6.1)
 n:=fun p t=>((p.1,(p.2.1,(p.2.2.1,((),(p.t3.1,(p.t4.1,(t.1,()))))))),(((w8 p.t5.1),(((),((),((),()))),())),(p.t6.1,(p.t7.1,(p.t8,((),(t.2,())))))))
 st:=fun Y p t ki ke=>cond (decide (t.1<p.2.2.2.2.1))
  (ask (V.va t.1 (fa p.2.2.2.1)) (ask (V.va t.1 (fa p.2.2.2.2.2.2.2.1)) (cond (decide ((gx p.2.2.2.1 (ga t.1) Ta).1=(15:Int)))
  (ask (V.va t.1 (fa p.2.2.2.2.2.2.1)) (cond (gx p.2.2.2.2.2.2.1 (ga t.1) false)
  (cond (!((gx p.2.2.2.2.2.2.2.1 (ga t.1) (false,false)).1==(gx p.2.2.2.2.2.2.2.1 (ga t.1) (false,false)).2))
  (cond (gx p.2.2.2.2.2.2.2.1 (ga t.1) (false,false)).2
  ((Gp t.1).bind fun r1=>
  ask (decide (Qa (str [111,110,101,32,119,97,121,32])+Qa r1<=9223372036854775807)) (ask (decide (Qa ((str [111,110,101,32,119,97,121,32])++r1)+Qa (str [32])<=9223372036854775807)) (ask (decide (Qa (((str [111,110,101,32,119,97,121,32])++r1)++(str [32]))+Qa (str [49])<=9223372036854775807)) (ask (decide (Qa ((((str [111,110,101,32,119,97,121,32])++r1)++(str [32]))++(str [49]))+Qa (str [10])<=9223372036854775807)) ((Kx ((((((str [111,110,101,32,119,97,121,32])++r1)++(str [32]))++(str [49]))++(str [10])),t.2)).bind fun r2=>
  ki ((Ga (t.1+(1:Int))),r2.2))))))
  ((Gp t.1).bind fun r3=>
  ask (decide (Qa (str [111,110,101,32,119,97,121,32])+Qa r3<=9223372036854775807)) (ask (decide (Qa ((str [111,110,101,32,119,97,121,32])++r3)+Qa (str [32])<=9223372036854775807)) (ask (decide (Qa (((str [111,110,101,32,119,97,121,32])++r3)++(str [32]))+Qa (str [48])<=9223372036854775807)) (ask (decide (Qa ((((str [111,110,101,32,119,97,121,32])++r3)++(str [32]))++(str [48]))+Qa (str [10])<=9223372036854775807)) ((Kx ((((((str [111,110,101,32,119,97,121,32])++r3)++(str [32]))++(str [48]))++(str [10])),t.2)).bind fun r4=>
  ki ((Ga (t.1+(1:Int))),r4.2)))))))
  (ki ((Ga (t.1+(1:Int))),t.2)))
  (ki ((Ga (t.1+(1:Int))),t.2))))
  (ki ((Ga (t.1+(1:Int))),t.2)))))
  (ke (t.2))
 o:=fun Z p e K=>K (.exit 5) ⟨[(2,.loc 0 0),(3,.loc 1 0),(5,.v (.int .i64 p.1)),(6,.v (.int .i64 p.2.1)),(7,.v (.int .i64 p.2.2.1)),(8,.v (.ptr 3 0))],[[.lit zb p.t5.1.1,.int .i64 p.t5.1.2.1,.int .i64 p.t5.1.2.2.1,.int .i64 p.t5.1.t3.1,.lit Na p.t5.1.t4.1,.lit yb p.t5.1.t5.1,.lit Na p.t5.1.t6.1,.lit ja p.t5.1.t7],[.all 0,.all 1,.all 2]],⟨[.cells .bool p.t6.1,.cells (.pair .bool .bool) p.t7.1,.cells ja p.t8,.Fl (.all 4),.ko e],0⟩,3⟩
 Je:=⟨[2,3,5,6,7,8,67,68,69],[],[],[]⟩
 pe:=[(.exit 5,⟨[2,3,5,6,7,8],[],[],[]⟩)]
def VX {X:Type} (a:Y41) (K:ByteArray->Option X):Option X:=
 (Oa (XF.m (a.1.1,(nt (fa a.1.1)),a)) (0,0,0,0,ByteArray.empty)).bind fun e1=>
 (Oa (jz.m (e1.1,e1.2.1,e1.2.2.1,a.1.1,(nt (fa a.1.1)),a)) (0,e1.2.2.2)).bind fun e2=>
 (EI ((str [112,108,97,99,101,115]),e1.1,(nt (fa a.1.1)))).bind fun r3=>
 (EI ((str [119,97,121,115]),e1.2.1,e1.2.2.1)).bind fun r4=>
 ask (decide (Qa r3+Qa r4<=9223372036854775807)) (ask (decide (Qa (r3++r4)+Qa (str [101,114,114,111,114,115,32])<=9223372036854775807)) ((Gp (nt (fa a.2.2.2))).bind fun r5=>
 ask (decide (Qa ((r3++r4)++(str [101,114,114,111,114,115,32]))+Qa r5<=9223372036854775807)) (ask (decide (Qa (((r3++r4)++(str [101,114,114,111,114,115,32]))++r5)+Qa (str [10])<=9223372036854775807)) ((U6 e2).bind fun r6=>
 ask (decide (Qa ((((r3++r4)++(str [101,114,114,111,114,115,32]))++r5)++(str [10]))+Qa r6<=9223372036854775807)) (K (((((r3++r4)++(str [101,114,114,111,114,115,32]))++r5)++(str [10]))++r6))))))
def gO:=fun a=>VX a some
def Daa:Spec:=D7.sp gO
noncomputable def RA:Env:=⟨fun k=>[].contains k,Cb [(39,mX),(38,qX),(40,V_),(41,kX)],fun X k s K=>if k=8 then VF.q X s K else if k=4 then XF.q X s K else if k=24 then jz.q X s K else none⟩
noncomputable def TX:Code:=Lb [1,1,1,0,1,0,0,1,1,0,0,1,1,0,1,0,0] (vb Tryz.f16)
theorem sR (hc:Sa C RA.call):Va RA.loop (vc par C true [2,3,10,15,16] 127) (.loop TX):=
 lO hc VF (by intros;simp only [VF,LD.m,nn])
noncomputable def UX:Code:=Lb [1,1,1,0,1,0,0] (vb Tryz.f16)
theorem tR (hc:Sa C RA.call):Va RA.loop (vc par C true [2,3,10,15,16] 127) (.loop UX):=
 lO hc XF (by intros;simp only [XF,LD.m,nn]) (hl:=(Yc (by kernel_rfl) (Db (sR hc) Bc)))
noncomputable def uR:Code:=Lb [1,1,1,1,0,1,0,0] (vb Tryz.f16)
theorem DL (hc:Sa C RA.call):Va RA.loop (vc par C true [2,3,10,15,16] 127) (.loop uR):=
 lO hc jz (by intros;simp only [jz,LD.m,nn])
theorem Eaa:OK (5) 16 (D7.sp gO):=
 fO (d:=4) (env:=RA) (Aa (cc nX (cc X_ (cc W_ (cc U_ cn))))) (fn:=Tryz.f16) (mc:=@VX) (by intros;simp only [gO,VX,nn]) (za:=[2,3,10,15,16]) (hl:=fun hc=>(Yc (by kernel_rfl) (Db (tR hc) (Db (DL hc) Bc))))
end
end Go.U
end
