/- The functions of the program as Lean functions, and that the evaluator says so. -/
import Derived.Test.YtjenflkegbmkkaaGreatDoorC6
set_option linter.unusedVariables false
set_option linter.unusedSimpArgs false
set_option linter.unusedSectionVars false
open ByteArray renaming size→za,empty→Rz
open Int renaming toNat→fa
open List renaming length→da
section
set_option maxRecDepth 100000
namespace Go.U
open Go Go.Proofs
noncomputable section
variable {C:V.Callee}
def TP:FS (Y3) (Y3)where
 sk:=⟨(cL [(.agg (cL [(.all 0),(.all 1),(.all 2)])),(.agg (cL [.Xa,.Xa,.Xa]))]),[.cells .bool,.cells (.pair .bool .bool),.cells ya],0⟩
 a:=fun u=>(u.2.1,u.2.2.1,u.t3.1)
 o:=fun Z a r K=>kv K (.agg (cL [(.all 3),(.all 4),(.all 5)])) [.cells .bool,.cells (.pair .bool .bool),.cells ya,.cells .bool,.cells (.pair .bool .bool),.cells ya] 0 ((),(),(),()) (a.1,a.2.1,a.2.2,r.1,r.2.1,r.2.2,())
def nw:PD (p7) (Y3)where
 sk:=⟨[(4,.p 3 0),(5,.p 4 0),(18,.v (.fn 69 (.cons (.ptr 8 0) .nil)))],[],[.cells .bool,.cells (.pair .bool .bool),.cells ya,.Ya (cL [.Xa,.Xa,.Xa]),.Ya kr9,.cells .bool,.cells (.pair .bool .bool),.cells ya,.Ya (cL [.Xa,.Xa,.Xa])],0,3⟩
 p:=fun u=>((q3 u.2.2),u.t7.1,u.t8.1,u.t9.1)
 st:=fun Y p ke=>(qA (p.2.1,p.2.2.1,p.2.2.2)).bind fun r1=>
  ke ((r1.1,r1.2.1,r1.2.2))
 o:=fun Z p e K=>so K (.normal) ⟨[(4,.p 3 0),(5,.p 4 0)],[],[.cells .bool,.cells (.pair .bool .bool),.cells ya,.Ya (cL [.Xa,.Xa,.Xa]),.Ya kr9,.cells .bool,.cells (.pair .bool .bool),.cells ya],0,3⟩ (((),(),()),(),p.1.1,p.1.2.1,p.1.2.2,((),(),(),()),((),(),(),()),e.1,e.2.1,e.2.2,())
 Dd:=⟨[4,5,18],[],[],[]⟩
 pe:=[(.normal,⟨[4,5],[],[],[]⟩)]
def xH{X:Type}(a:Y3)(K:Y3->Option X):Option X:=
 (uP a.1).bind fun r1=>
 (tP a.2.1).bind fun r2=>
 (sP a.2.2).bind fun r3=>
 (nw.m (a,r1,r2,r3)).bind fun e4=>
 (kF e4.2.2).bind fun r5=>
 K (e4.1,e4.2.1,r5)
def Gs:=fun a=>xH a some
def tZ:Spec:=TP.sp Gs
noncomputable def wH:Env:=eE [] (yb [(47,BM),(48,AM),(49,zM),(43,VY),(69,mY),(51,wM)]) (qL 3 nw.q qN)
theorem gK:LS C wH true [] 63 (rfC (pc [1,1,0,1,0] Tryz.f23)):=fun hc=>
 rO (env:=wH) hc (id:=230003) (ks:=[5]) nw (by intros;simp only[nw,PD.m,nn])
theorem uZ:OK (6) 23 (TP.sp Gs):=
 fO (d:=5) (env:=wH) (Da (cc QY (cc PY (cc OY (cc WY (cc nY (cc MY cn))))))) (fn:=Tryz.f23) (mc:=@xH) (by intros;simp only[Gs,xH,nn]) (sh:=(.agg [(.own .bool),(.own (.pair .bool .bool)),(.own ya)])) (hl:=fun hc=>(nc (by kernel_rfl) (Ua (gK hc) Kb)))
def FQ:FS (Int×Int×Int×Int×(List Bool)×(List (Bool×Bool))×(List Aa)×Bool) ((Unit) ⊕ (Unit))where
 sk:=⟨(cL [(.yl 0),(.agg uB)]),[.loop 240002 [(3,(.ptr 1 0)),(4,(.ptr 5 0))] .ready .normal,.Ya JL,.cells .bool,.cells (.pair .bool .bool),.cells ya,.Ya (.cons .bool .nil)],0⟩
 a:=fun u=>(r4 u.1.2.1 (r3 u.t3 u.t6.1.1))
 o:=fun Z a r K=>Sum.elim (fun e=>kv K (.bool) [.loop 240002 [(3,(.ptr 1 0)),(4,(.ptr 5 0))] .done .ret,.Ya JL,.cells .bool,.cells (.pair .bool .bool),.cells ya,.Ya (.cons .bool .nil)] 0 false (((),(),()),((),(),(),()),(r3 a.t4 ((false,()),())))) (fun e=>kv K (.bool) [.loop 240002 [(3,(.ptr 1 0)),(4,(.ptr 5 0))] .ready .normal,.Ya JL,.cells .bool,.cells (.pair .bool .bool),.cells ya,.Ya (.cons .bool .nil)] 0 true (((),(),()),((),(),(),()),(r3 a.t4 ((a.t7,()),())))) r
def Ww{X:Type}(a:Int×Int×Int×Int×(List Bool)×(List (Bool×Bool))×(List Aa)×Bool)(K:(Unit) ⊕ (Unit)->Option X):Option X:=
 (jw ((a.1,(a.2.1,(a.2.2.1,a.2.2.2.1))),a.2.2.2.2.1,a.2.2.2.2.2.1,a.2.2.2.2.2.2.1)).bind fun r1=>
 cond (!r1)
 (K (.inl ()))
 (K (.inr (())))
def zk:=fun a=>Ww a some
def JA:Spec:=FQ.sp zk
noncomputable def GQ:Env:=eE [] (yb [(50,xM)]) qN
theorem YK:OKY (4) JA:=
 G3 (d:=3) (env:=GQ) (Da (cc yM cn)) (id:=240002) (r:=rfT 240002) rfl (fun hc=>(nc (by kernel_rfl) Kb)) (fun hc=>(nc (by kernel_rfl) Kb)) (mc:=fun X a K=>Ww a K) (fun _ _ _=>by kernel_rfl) (by intros;simp only[zk,Ww,nn])
def ZO:FS (Y35) ((Unit) ⊕ (Unit))where
 sk:=⟨(cL [(.yl 4),(.ptr 0 0)]),[.Ya Kj,.cells .bool,.cells (.pair .bool .bool),.cells ya,.loop 240002 [(3,(.ptr 5 0)),(4,(.ptr 9 0))] .ready .normal,.Ya ku,.cells .bool,.cells (.pair .bool .bool),.cells ya,.Ya (.cons .bool .nil)],0⟩
 a:=fun u=>(r3 u.2.2 (r3 u.t7 u.t10.1.1))
 o:=fun Z a r K=>Sum.elim (fun e=>kv K (.Sc .nil) [.Ya Kj,.cells .bool,.cells (.pair .bool .bool),.cells ya,.loop 240002 [(3,(.ptr 5 0)),(4,(.ptr 9 0))] .done .ret,.Ya ku,.cells .bool,.cells (.pair .bool .bool),.cells ya,.Ya (.cons .bool .nil)] 0 () (((),(),(),()),(r3 a (((),(),()),((),(),(),()),(r3 a.t3 ((false,()),())))))) (fun e=>kv K (.Sc .nil) [.Ya Kj,.cells .bool,.cells (.pair .bool .bool),.cells ya,.loop 240002 [(3,(.ptr 5 0)),(4,(.ptr 9 0))] .ready .normal,.Ya ku,.cells .bool,.cells (.pair .bool .bool),.cells ya,.Ya (.cons .bool .nil)] 0 () (((),(),(),()),(r3 a (((),(),()),((),(),(),()),(r3 a.t3 ((a.t6,()),())))))) r
def Uv:LD (Int×((List Bool)×((List (Bool×Bool))×((List Aa)×((List Bool)×(Y36)))))) (Int) ((Unit) ⊕ (Unit))where
 sk:=⟨[(0,.v (.yl 4)),(1,.p 0 0),(12,.v (.all 1)),(13,.i),(14,.i)],[],[.Ya Kj,.cells .bool,.cells (.pair .bool .bool),.cells ya,.loop 240002 [(3,(.ptr 5 0)),(4,(.ptr 9 0))] .ready .normal,.Ya ku,.cells .bool,.cells (.pair .bool .bool),.cells ya,.Ya (.cons .bool .nil)],0,10⟩
 p:=fun u=>(u.1.t3.1,u.t3.1,(u.t4.1,(u.t5.1,(u.t8.1,(u.t9.1,(u.t10.1,u.t11.1.1))))))
 t:=fun u=>u.1.t4.1
 n:=fun p t=>(((),(),(),p.1,t,()),(),((),(),(),()),(r3 p.2 (((),(),()),((),(),(),()),(r3 p.t4 ((p.t7,()),())))))
 st:=fun Y p t ki ke=>cond (decide (t<p.1))
  (ask (V.ja t (da p.2.1)) (cond (gx p.2.1 (fa t) false)
  ((zk (0,t,0,0,p.2.2.2.2.1,p.2.2.2.2.2.1,p.2.2.2.2.2.2.1,p.2.2.2.2.2.2.2)).bind fun r1=>
  Sum.elim (fun r2=>ke (.inl ()))
  (fun r3=>ki ((Ea (t+(1:Int))))) r1)
  (ki ((Ea (t+(1:Int)))))))
  (ke (.inr (())))
 o:=fun Z p e K=>Sum.elim (fun e=>so K (.ret) ⟨[],[],[.Ya Kj,.cells .bool,.cells (.pair .bool .bool),.cells ya,.loop 240002 [(3,(.ptr 5 0)),(4,(.ptr 9 0))] .done .ret,.Ya ku,.cells .bool,.cells (.pair .bool .bool),.cells ya,.Ya (.cons .bool .nil)],0,10⟩ ((),(),((),(),(),()),(r3 p.2 (((),(),()),((),(),(),()),(r3 p.t4 ((false,()),())))))) (fun e=>so K (.exit 0) ⟨[(0,.v (.yl 4)),(1,.p 0 0)],[],[.Ya Kj,.cells .bool,.cells (.pair .bool .bool),.cells ya,.loop 240002 [(3,(.ptr 5 0)),(4,(.ptr 9 0))] .ready .normal,.Ya ku,.cells .bool,.cells (.pair .bool .bool),.cells ya,.Ya (.cons .bool .nil)],0,10⟩ (((),(),()),(),((),(),(),()),(r3 p.2 (((),(),()),((),(),(),()),(r3 p.t4 ((p.t7,()),())))))) e
 Dd:=⟨[0,1,12,13,14],[],[],[]⟩
 pe:=[(.ret,⟨[],[],[],[]⟩),(.exit 0,⟨[0,1],[],[],[]⟩)]
def Sv:LD (Int×Int×Int×(Bool×Bool)×((List Bool)×((List (Bool×Bool))×((List Aa)×((List Bool)×(Y36)))))) (Int) ((Unit) ⊕ (Unit))where
 sk:=⟨[(0,.v (.yl 4)),(1,.p 0 0),(5,.i),(29,.v (.all 2)),(30,.i),(31,.i),(36,.v (.agg (cL [.bool,.bool]))),(37,.i)],[],[.Ya Kj,.cells .bool,.cells (.pair .bool .bool),.cells ya,.loop 240002 [(3,(.ptr 5 0)),(4,(.ptr 9 0))] .ready .normal,.Ya ku,.cells .bool,.cells (.pair .bool .bool),.cells ya,.Ya (.cons .bool .nil)],0,10⟩
 p:=fun u=>(u.1.2.2.1,u.1.t4.1,u.1.t5.1,(u.1.t6.1.1,u.1.t6.1.2.1),u.t3.1,(u.t4.1,(u.t5.1,(u.t8.1,(u.t9.1,(u.t10.1,u.t11.1.1))))))
 t:=fun u=>u.1.t7.1
 n:=fun p t=>(((),(),p.1,(),p.2.1,p.2.2.1,(p.t3.1.1,p.t3.1.2,()),t,()),(),((),(),(),()),(r3 p.t4 (((),(),()),((),(),(),()),(r3 p.t7 ((p.t10,()),())))))
 st:=fun Y p t ki ke=>cond (decide (t<(2:Int)))
  (cond (decide (t=(0:Int)))
  (cond p.2.2.2.1.1
  ((zk ((Ea ((1:Int)+t)),p.1,0,0,p.2.2.2.2.2.2.2.1,p.2.2.2.2.2.2.2.2.1,p.2.2.2.2.2.2.2.2.2.1,p.2.2.2.2.2.2.2.2.2.2)).bind fun r1=>
  Sum.elim (fun r2=>ke (.inl ()))
  (fun r3=>ki ((Ea (t+(1:Int))))) r1)
  (ki ((Ea (t+(1:Int))))))
  (cond (decide (t=(1:Int)))
  (cond p.2.2.2.1.2
  ((zk ((Ea ((1:Int)+t)),p.1,0,0,p.2.2.2.2.2.2.2.1,p.2.2.2.2.2.2.2.2.1,p.2.2.2.2.2.2.2.2.2.1,p.2.2.2.2.2.2.2.2.2.2)).bind fun r4=>
  Sum.elim (fun r5=>ke (.inl ()))
  (fun r6=>ki ((Ea (t+(1:Int))))) r4)
  (ki ((Ea (t+(1:Int))))))
  (none)))
  (ke (.inr (())))
 o:=fun Z p e K=>Sum.elim (fun e=>so K (.ret) ⟨[],[],[.Ya Kj,.cells .bool,.cells (.pair .bool .bool),.cells ya,.loop 240002 [(3,(.ptr 5 0)),(4,(.ptr 9 0))] .done .ret,.Ya ku,.cells .bool,.cells (.pair .bool .bool),.cells ya,.Ya (.cons .bool .nil)],0,10⟩ ((),(),((),(),(),()),(r3 p.t4 (((),(),()),((),(),(),()),(r3 p.t7 ((false,()),())))))) (fun e=>so K (.exit 4) ⟨[(0,.v (.yl 4)),(1,.p 0 0),(29,.v (.all 2)),(30,.i),(31,.i)],[],[.Ya Kj,.cells .bool,.cells (.pair .bool .bool),.cells ya,.loop 240002 [(3,(.ptr 5 0)),(4,(.ptr 9 0))] .ready .normal,.Ya ku,.cells .bool,.cells (.pair .bool .bool),.cells ya,.Ya (.cons .bool .nil)],0,10⟩ (((),(),(),p.2.1,p.2.2.1,()),(),((),(),(),()),(r3 p.t4 (((),(),()),((),(),(),()),(r3 p.t7 ((p.t10,()),())))))) e
 Dd:=⟨[0,1,5,29,30,31,36,37],[],[],[]⟩
 pe:=[(.ret,⟨[],[],[],[]⟩),(.exit 4,⟨[0,1,29,30,31],[],[],[]⟩)]
def Tv:LD (Int×((List Bool)×((List (Bool×Bool))×((List Aa)×((List Bool)×(Y36)))))) (Int) ((Unit) ⊕ (Unit))where
 sk:=⟨[(0,.v (.yl 4)),(1,.p 0 0),(29,.v (.all 2)),(30,.i),(31,.i)],[],[.Ya Kj,.cells .bool,.cells (.pair .bool .bool),.cells ya,.loop 240002 [(3,(.ptr 5 0)),(4,(.ptr 9 0))] .ready .normal,.Ya ku,.cells .bool,.cells (.pair .bool .bool),.cells ya,.Ya (.cons .bool .nil)],0,10⟩
 p:=fun u=>(u.1.t3.1,u.t3.1,(u.t4.1,(u.t5.1,(u.t8.1,(u.t9.1,(u.t10.1,u.t11.1.1))))))
 t:=fun u=>u.1.t4.1
 n:=fun p t=>(((),(),(),p.1,t,()),(),((),(),(),()),(r3 p.2 (((),(),()),((),(),(),()),(r3 p.t4 ((p.t7,()),())))))
 st:=fun Y p t ki ke=>cond (decide (t<p.1))
  (ask (V.ja t (da p.2.2.1)) ((Ma (Sv.m (t,p.1,t,(gx p.2.2.1 (fa t) (false,false)),p.2)) 0).bind fun e1=>
  Sum.elim (fun e2=>ke (.inl ()))
  (fun e3=>ki ((Ea (t+(1:Int))))) e1))
  (ke (.inr (())))
 o:=fun Z p e K=>Sum.elim (fun e=>so K (.ret) ⟨[],[],[.Ya Kj,.cells .bool,.cells (.pair .bool .bool),.cells ya,.loop 240002 [(3,(.ptr 5 0)),(4,(.ptr 9 0))] .done .ret,.Ya ku,.cells .bool,.cells (.pair .bool .bool),.cells ya,.Ya (.cons .bool .nil)],0,10⟩ ((),(),((),(),(),()),(r3 p.2 (((),(),()),((),(),(),()),(r3 p.t4 ((false,()),())))))) (fun e=>so K (.exit 2) ⟨[(0,.v (.yl 4)),(1,.p 0 0)],[],[.Ya Kj,.cells .bool,.cells (.pair .bool .bool),.cells ya,.loop 240002 [(3,(.ptr 5 0)),(4,(.ptr 9 0))] .ready .normal,.Ya ku,.cells .bool,.cells (.pair .bool .bool),.cells ya,.Ya (.cons .bool .nil)],0,10⟩ (((),(),()),(),((),(),(),()),(r3 p.2 (((),(),()),((),(),(),()),(r3 p.t4 ((p.t7,()),())))))) e
 Dd:=⟨[0,1,29,30,31],[],[],[]⟩
 pe:=[(.ret,⟨[],[],[],[]⟩),(.exit 2,⟨[0,1],[],[],[]⟩)]
def Bs:LD (Int×((List Bool)×((List (Bool×Bool))×((List Aa)×((List Bool)×(Y36)))))) (Int) ((Unit) ⊕ (Unit))where
 sk:=⟨[(0,.v (.yl 4)),(54,.v (.all 3)),(55,.i),(56,.i)],[],[.Ya Kj,.cells .bool,.cells (.pair .bool .bool),.cells ya,.loop 240002 [(3,(.ptr 5 0)),(4,(.ptr 9 0))] .ready .normal,.Ya ku,.cells .bool,.cells (.pair .bool .bool),.cells ya,.Ya (.cons .bool .nil)],0,10⟩
 p:=fun u=>(u.1.2.2.1,u.t3.1,(u.t4.1,(u.t5.1,(u.t8.1,(u.t9.1,(u.t10.1,u.t11.1.1))))))
 t:=fun u=>u.1.t3.1
 n:=fun p t=>(((),(),p.1,t,()),(),((),(),(),()),(r3 p.2 (((),(),()),((),(),(),()),(r3 p.t4 ((p.t7,()),())))))
 st:=fun Y p t ki ke=>cond (decide (t<p.1))
  (ask (V.ja t (da p.2.2.2.1)) ((zk (3,0,(gx p.2.2.2.1 (fa t) Fb).1,(gx p.2.2.2.1 (fa t) Fb).2,p.2.2.2.2.1,p.2.2.2.2.2.1,p.2.2.2.2.2.2.1,p.2.2.2.2.2.2.2)).bind fun r1=>
  Sum.elim (fun r2=>ke (.inl ()))
  (fun r3=>ki ((Ea (t+(1:Int))))) r1))
  (ke (.inr (())))
 o:=fun Z p e K=>Sum.elim (fun e=>so K (.ret) ⟨[],[],[.Ya Kj,.cells .bool,.cells (.pair .bool .bool),.cells ya,.loop 240002 [(3,(.ptr 5 0)),(4,(.ptr 9 0))] .done .ret,.Ya ku,.cells .bool,.cells (.pair .bool .bool),.cells ya,.Ya (.cons .bool .nil)],0,10⟩ ((),(),((),(),(),()),(r3 p.2 (((),(),()),((),(),(),()),(r3 p.t4 ((false,()),())))))) (fun e=>so K (.exit 6) ⟨[],[],[.Ya Kj,.cells .bool,.cells (.pair .bool .bool),.cells ya,.loop 240002 [(3,(.ptr 5 0)),(4,(.ptr 9 0))] .ready .normal,.Ya ku,.cells .bool,.cells (.pair .bool .bool),.cells ya,.Ya (.cons .bool .nil)],0,10⟩ ((),(),((),(),(),()),(r3 p.2 (((),(),()),((),(),(),()),(r3 p.t4 ((p.t7,()),())))))) e
 Dd:=⟨[0,54,55,56],[],[],[]⟩
 pe:=[(.ret,⟨[],[],[],[]⟩),(.exit 6,⟨[],[],[],[]⟩)]
def iH{X:Type}(a:Y35)(K:(Unit) ⊕ (Unit)->Option X):Option X:=
 (Ma (Uv.m ((nt (da a.1)),a)) 0).bind fun e1=>
 Sum.elim (fun e2=>K (.inl ()))
 (fun e3=>(Ma (Tv.m ((nt (da a.2.1)),a)) 0).bind fun e4=>
 Sum.elim (fun e5=>K (.inl ()))
 (fun e6=>(Ma (Bs.m ((nt (da a.2.2.1)),a)) 0).bind fun e7=>
 Sum.elim (fun e8=>K (.inl ()))
 (fun e9=>K (.inr (()))) e7) e4) e1
def pA:=fun a=>iH a some
def kY:Spec:=ZO.sp pA
noncomputable def Vv:Env:=eE [] (Rs [] [(240002,JA)]) (qL 1 Uv.q (qL 9 Sv.q (qL 6 Tv.q (qL 15 Bs.q qN))))
theorem LJ:LS C Vv true [6,10] 66 (.loop (pc [0,1,0,0] Tryz.f69)):=fun hc=>
 lO hc Uv (by intros;simp only[Uv,LD.m,nn])
theorem JJ:LS C Vv true [6,10] 66 (.loop (pc [1,0,1,0,0,1,1,0,0,1,1,0,0] Tryz.f69)):=fun hc=>
 lO hc Sv (by intros;simp only[Sv,LD.m,nn])
theorem KJ:LS C Vv true [6,10] 66 (.loop (pc [1,0,1,0,0] Tryz.f69)):=fun hc=>
 lO hc Tv (by intros;simp only[Tv,LD.m,nn]) (hl:=(nc (by kernel_rfl) (Ua (JJ hc) Kb)))
theorem gH:LS C Vv true [6,10] 66 (.loop (pc [1,1,1,0,0] Tryz.f69)):=fun hc=>
 lO hc Bs (by intros;simp only[Bs,LD.m,nn])
theorem lY:OK (5) 69 (ZO.sp pA):=
 fO (d:=4) (env:=Vv) (Dj cn (ccy YK cyn)) (fn:=Tryz.f69) (mc:=@iH) (by intros;simp only[pA,iH,nn]) (Fa:=[6,10]) (hl:=fun hc=>(nc (by kernel_rfl) (Ua (LJ hc) (Ua (KJ hc) (Ua (gH hc) Kb)))))
def G':FS (Y37) (Bool)where
 sk:=⟨(cL [(.agg (cL [(.all 0),(.all 1),(.all 2)])),(.agg (cL [(.all 3),(.all 4),(.all 5)]))]),[.cells .bool,.cells (.pair .bool .bool),.cells ya,.cells .bool,.cells (.pair .bool .bool),.cells ya],0⟩
 a:=fun u=>(r5 u.2 u.t6.1)
 o:=fun Z a r K=>kv K (.bool) [.cells .bool,.cells (.pair .bool .bool),.cells ya,.cells .bool,.cells (.pair .bool .bool),.cells ya] 0 r (r5 a (a.t5,()))
def vH:PD (((List Bool)×(Y38))×Bool) ((Unit) ⊕ (Unit))where
 sk:=⟨[(3,.p 6 0),(4,.p 7 0),(7,.v (.fn 69 (.cons (.ptr 8 0) .nil)))],[],[.cells .bool,.cells (.pair .bool .bool),.cells ya,.cells .bool,.cells (.pair .bool .bool),.cells ya,.Ya uR,.Ya (.cons .bool .nil),.Ya G4],0,6⟩
 p:=fun u=>((q6 u.2.2),u.t9.1.1)
 st:=fun Y p ke=>(pA (p.1.1,p.1.2.1,p.1.2.2.1,p.1.2.2.2.1,p.1.2.2.2.2.1,p.1.2.2.2.2.2,p.2)).bind fun r1=>
  Sum.elim (fun r2=>ke (.inl ()))
  (fun r3=>ke (.inr (()))) r1
 o:=fun Z p e K=>Sum.elim (fun e=>so K (.ret) ⟨[(4,.p 6 0)],[],[.cells .bool,.cells (.pair .bool .bool),.cells ya,.cells .bool,.cells (.pair .bool .bool),.cells ya,.Ya (.cons .bool .nil)],0,6⟩ (((),()),(),(r5 p.1 (p.1.t5,(false,()),())))) (fun e=>so K (.normal) ⟨[(4,.p 6 0)],[],[.cells .bool,.cells (.pair .bool .bool),.cells ya,.cells .bool,.cells (.pair .bool .bool),.cells ya,.Ya (.cons .bool .nil)],0,6⟩ (((),()),(),(r5 p.1 (p.1.t5,(p.2,()),())))) e
 Dd:=⟨[3,4,7],[],[],[]⟩
 pe:=[(.ret,⟨[4],[],[],[]⟩),(.normal,⟨[4],[],[],[]⟩)]
def sZ{X:Type}(a:Y37)(K:Bool->Option X):Option X:=
 (vH.m (a,false)).bind fun e1=>
 Sum.elim (fun e2=>K false)
 (fun e3=>K true) e1
def SP:=fun a=>sZ a some
def Wac:Spec:=G'.sp SP
noncomputable def rZ:Env:=eE [] (yb [(43,cK),(69,kY)]) (qL 2 vH.q qN)
theorem fT:LS C rZ true [] 13 (rfC (pc [1,0,1,0] Tryz.f24)):=fun hc=>
 rO (env:=rZ) hc (id:=240002) (ks:=[3,4]) vH (by intros;simp only[vH,PD.m,nn])
theorem Xac:OK (6) 24 (G'.sp SP):=
 fO (d:=5) (env:=rZ) (Da (cc dK (cc lY cn))) (fn:=Tryz.f24) (mc:=@sZ) (by intros;simp only[SP,sZ,nn]) (hl:=fun hc=>(nc (by kernel_rfl) (Ua (fT hc) Kb)))
def J':FS (p_) ((List Int))where
 sk:=⟨(cL [(.agg jb),(.lit (.slice .i)),.i]),[],0⟩
 a:=fun u=>((q8 u.1.1),u.1.2.1,u.1.2.2.1)
 o:=fun Z a r K=>kv K (.lit .i) [] 0 r ()
def yH:LD ((Y39)×(List (List Int))×Int×Ga) (Int×(List (Int×vb))) ((List (Int×vb)))where
 sk:=⟨[(1,.v (.lit (.slice .i))),(2,.i),(3,.loc 0 0),(7,.v (.mp 0)),(23,.v (.lit (.slice .i))),(24,.i),(25,.i)],[jb],[.oh .i true Nj],0,0⟩
 p:=fun u=>((u.1.1,u.1.2.1),u.1.t3.1,u.1.t4.1,u.2.1.1.1,(q7 u.2.1.1.2))
 t:=fun u=>(u.1.t5.1,u.2.2.1)
 n:=fun p t=>((p.1.1,p.1.2,(),p.2.1,p.2.2.1,t.1,()),((r7 p.t3 (p.t10,())),()),t.2,())
 st:=fun Y p t ki ke=>cond (decide (t.1<p.2.2.1))
  (ask (V.ja t.1 (da p.2.1)) ((QB (p.2.2.2,(gx p.2.1 (fa t.1) []),p.1.2)).bind fun r1=>
  ki ((Ea (t.1+(1:Int))),(VA (k:=(.int .i64)) t.1 r1.1 t.2))))
  (ke (t.2))
 o:=fun Z p e K=>so K (.exit 0) ⟨[(1,.v (.lit (.slice .i))),(3,.loc 0 0),(7,.v (.mp 0))],[jb],[.oh .i true Nj],0,0⟩ ((p.1.1,(),()),((r7 p.t3 (p.t10,())),()),e,())
 Dd:=⟨[1,2,3,7,23,24,25],[],[],[]⟩
 pe:=[(.exit 0,⟨[1,3,7],[],[],[]⟩)]
def xA:LD ((List (List Int))×Int×Ga×((List (Int×vb))×((List (Int×vb))×((List Int)×vb)))) (Int×Int×Int) (Int)where
 sk:=⟨[(1,.v (.lit (.slice .i))),(3,.loc 0 0),(7,.v (.mp 0)),(10,.v (.mp 1)),(11,.loc 1 0),(12,.v (.all 2)),(13,.i),(14,.i),(45,.i),(46,.i)],[jb,(cL [(.all 3),(.all 4),(.all 5)])],[.oh .i true Nj,.oh .i true Nj,.cells .i,.cells .bool,.cells (.pair .bool .bool),.cells ya],0,0⟩
 p:=fun u=>(u.1.1,u.1.t6.1,(q8 u.2.1.1),u.2.2.1,(q5 u.t3))
 t:=fun u=>(u.1.t4.1,u.1.t5.1,u.1.t7.1)
 n:=fun p t=>((p.1,(),(),(),t.1,t.2.1,p.2.1,t.2.2,()),((r7 p.2.2.1 (p.2.2.1.t7,())),((),(),(),()),()),(r5 p.t3 (p.t8,())))
 st:=fun Y p t ki ke=>cond (decide (t.2.2<p.2.1))
  (cond (vJ (k:=(.int .i64)) t.2.2 p.2.2.2.1)
  ((bK ((Lz (k:=(.int .i64)) t.2.2 wu p.2.2.2.1),p.2.2.2.2.2.2.1,p.2.2.2.2.2.2.2.1,p.2.2.2.2.2.2.2.2)).bind fun r1=>
  cond (decide (t.2.1<r1))
  ((bK ((Lz (k:=(.int .i64)) t.2.2 wu p.2.2.2.1),p.2.2.2.2.2.2.1,p.2.2.2.2.2.2.2.1,p.2.2.2.2.2.2.2.2)).bind fun r2=>
  ki (t.2.2,r2,(Ea (t.2.2+(1:Int)))))
  (ki (t.1,t.2.1,(Ea (t.2.2+(1:Int))))))
  (ki (t.1,t.2.1,(Ea (t.2.2+(1:Int))))))
  (ke (t.1))
 o:=fun Z p e K=>so K (.exit 4) ⟨[(1,.v (.lit (.slice .i))),(3,.loc 0 0),(7,.v (.mp 0)),(10,.v (.mp 1)),(11,.loc 1 0),(12,.v (.all 2)),(13,.i)],[jb,(cL [(.all 3),(.all 4),(.all 5)])],[.oh .i true Nj,.oh .i true Nj,.cells .i,.cells .bool,.cells (.pair .bool .bool),.cells ya],0,0⟩ ((p.1,(),(),(),e,()),((r7 p.2.2.1 (p.2.2.1.t7,())),((),(),(),()),()),(r5 p.t3 (p.t8,())))
 Dd:=⟨[1,3,7,10,11,12,13,14,45,46],[],[],[]⟩
 pe:=[(.exit 4,⟨[1,3,7,10,11,12,13],[],[],[]⟩)]
def yA:LD ((List (List Int))×Ga) ((List (Int×vb))×(List (Int×vb))×(List Int)×(List Bool)×(List (Bool×Bool))×(List Aa)) ((List (Int×vb))×(List Int)×(List Bool)×(List (Bool×Bool))×(List Aa))where
 sk:=⟨[(1,.v (.lit (.slice .i))),(3,.loc 0 0),(7,.v (.mp 0)),(10,.v (.mp 1)),(11,.loc 1 0),(12,.v (.all 2))],[jb,(cL [(.all 3),(.all 4),(.all 5)])],[.oh .i true Nj,.oh .i true Nj,.cells .i,.cells .bool,.cells (.pair .bool .bool),.cells ya],0,0⟩
 p:=fun u=>(u.1.1,u.2.1.1.1,(q7 u.2.1.1.2))
 t:=fun u=>(r5 u.2.2 u.t7.1)
 n:=fun p t=>((p.1,(),(),(),()),((r7 p.2 (p.t8,())),((),(),(),()),()),(r5 t (t.t5,())))
 st:=fun Y p t ki ke=>(Ma (xA.m (p.1,(nt (da p.1)),p.2,t)) ((-1),0,0)).bind fun e1=>
  cond (decide (e1<(0:Int)))
  (ke ((t.2.1,t.2.2.1,t.2.2.2.1,t.2.2.2.2.1,t.2.2.2.2.2)))
  (ask (decide (((da t.2.2.1)+(da ([e1]:List Int))) * 8<=70368744177664)&&decide (((da t.2.2.1)+(da ([e1]:List Int)))<9223372036854775808)) (cond (vJ (k:=(.int .i64)) e1 t.1)
  (cond (vJ (k:=(.int .i64)) e1 t.1)
  ((qw ((Lz (k:=(.int .i64)) e1 wu t.1),t.2.2.2.1,t.2.2.2.2.1,t.2.2.2.2.2)).bind fun r2=>
  ki ((MD (k:=(.int .i64)) e1 t.1),(VA (k:=(.int .i64)) e1 (Lz (k:=(.int .i64)) e1 wu t.1) t.2.1),(t.2.2.1++([e1]:List Int)),r2.1,r2.2.1,r2.2.2))
  ((Gs (t.2.2.2.1,t.2.2.2.2.1,t.2.2.2.2.2)).bind fun r3=>
  ki ((MD (k:=(.int .i64)) e1 t.1),(VA (k:=(.int .i64)) e1 (Lz (k:=(.int .i64)) e1 wu t.1) t.2.1),(t.2.2.1++([e1]:List Int)),r3.1,r3.2.1,r3.2.2)))
  (cond (vJ (k:=(.int .i64)) e1 t.1)
  ((qw ((Lz (k:=(.int .i64)) e1 wu t.1),t.2.2.2.1,t.2.2.2.2.1,t.2.2.2.2.2)).bind fun r4=>
  ki ((MD (k:=(.int .i64)) e1 t.1),(VA (k:=(.int .i64)) e1 ([],([],[])) t.2.1),(t.2.2.1++([e1]:List Int)),r4.1,r4.2.1,r4.2.2))
  ((Gs (t.2.2.2.1,t.2.2.2.2.1,t.2.2.2.2.2)).bind fun r5=>
  ki ((MD (k:=(.int .i64)) e1 t.1),(VA (k:=(.int .i64)) e1 ([],([],[])) t.2.1),(t.2.2.1++([e1]:List Int)),r5.1,r5.2.1,r5.2.2)))))
 o:=fun Z p e K=>so K (.exit 2) ⟨[(3,.loc 0 0),(10,.v (.mp 0)),(11,.loc 1 0),(12,.v (.all 1))],[jb,(cL [(.all 2),(.all 3),(.all 4)])],[.oh .i true Nj,.cells .i,.cells .bool,.cells (.pair .bool .bool),.cells ya],0,0⟩ (((),(),()),((r7 p.2 (p.t8,())),((),(),(),()),()),(r4 e (e.t4,())))
 Dd:=⟨[1,3,7,10,11,12],[(12,(.own (.int .i64)))],[],[]⟩
 pe:=[(.exit 2,⟨[3,10,11,12],[],[],[]⟩)]
def vA:LD (Int×Int×Ga×(List (Int×vb))×(List Int)×vb) (vQ) (Y3)where
 sk:=⟨[(3,.loc 0 0),(10,.v (.mp 0)),(11,.loc 1 0),(12,.v (.all 1)),(18,.i),(19,.loc 2 0),(95,.v (.all 1)),(96,.i),(97,.i)],[jb,(cL [(.all 2),(.all 3),(.all 4)]),(cL [(.all 5),(.all 6),(.all 7)])],[.oh .i true Nj,.cells .i,.cells .bool,.cells (.pair .bool .bool),.cells ya,.cells .bool,.cells (.pair .bool .bool),.cells ya],0,0⟩
 p:=fun u=>(u.1.2.2.1,u.1.t4.1,(q8 u.2.1.1),u.2.2.1,u.t3.1,u.t4.1,(u.t5.1,u.t6.1))
 t:=fun u=>(u.1.t5.1,u.t7.1,u.t8.1,u.t9.1)
 n:=fun p t=>(((),(),p.1,(),p.2.1,t.1,()),((r7 p.2.2.1 (p.2.2.1.t7,())),((),(),(),()),((),(),(),()),()),(r4 p.t3 (p.t7,t.2.1,t.2.2.1,t.t3,())))
 st:=fun Y p t ki ke=>cond (decide (t.1<p.2.1))
  (ask (V.ja t.1 (da p.2.2.2.2.1)) (cond (!(decide (t.1=p.1)))
  (cond (vJ (k:=(.int .i64)) (gx p.2.2.2.2.1 (fa t.1) (0:Int)) p.2.2.2.1)
  ((qw ((Lz (k:=(.int .i64)) (gx p.2.2.2.2.1 (fa t.1) (0:Int)) wu p.2.2.2.1),t.2.1,t.2.2.1,t.2.2.2)).bind fun r1=>
  ki ((Ea (t.1+(1:Int))),r1.1,r1.2.1,r1.2.2))
  ((Gs (t.2.1,t.2.2.1,t.2.2.2)).bind fun r2=>
  ki ((Ea (t.1+(1:Int))),r2.1,r2.2.1,r2.2.2)))
  (ki ((Ea (t.1+(1:Int))),t.2.1,t.2.2.1,t.2.2.2))))
  (ke ((t.2.1,t.2.2.1,t.2.2.2)))
 o:=fun Z p e K=>so K (.exit 8) ⟨[(3,.loc 0 0),(10,.v (.mp 0)),(11,.loc 1 0),(12,.v (.all 1)),(18,.i),(19,.loc 2 0)],[jb,(cL [(.all 2),(.all 3),(.all 4)]),(cL [(.all 5),(.all 6),(.all 7)])],[.oh .i true Nj,.cells .i,.cells .bool,.cells (.pair .bool .bool),.cells ya,.cells .bool,.cells (.pair .bool .bool),.cells ya],0,0⟩ (((),(),p.1,()),((r7 p.2.2.1 (p.2.2.1.t7,())),((),(),(),()),((),(),(),()),()),(r4 p.t3 (p.t7,e.1,e.2.1,e.2.2,())))
 Dd:=⟨[3,10,11,12,18,19,95,96,97],[],[],[]⟩
 pe:=[(.exit 8,⟨[3,10,11,12,18,19],[],[],[]⟩)]
def wA:LD (Ga×(List (Int×vb))×vb) (Int×(List Int)) ((List Int))where
 sk:=⟨[(3,.loc 0 0),(10,.v (.mp 0)),(11,.loc 1 0),(12,.v (.all 1)),(18,.i)],[jb,(cL [(.all 2),(.all 3),(.all 4)])],[.oh .i true Nj,.cells .i,.cells .bool,.cells (.pair .bool .bool),.cells ya],0,0⟩
 p:=fun u=>((q8 u.2.1.1),u.2.2.1,u.t4.1,(u.t5.1,u.t6.1))
 t:=fun u=>(u.1.2.2.1,u.t3.1)
 n:=fun p t=>(((),(),t.1,()),((r7 p.1 (p.1.t7,())),((),(),(),()),()),p.2.1,t.2,p.2.2.1,p.t3.1,p.t4,())
 st:=fun Y p t ki ke=>cond (decide ((0:Int)<=t.1))
  ((Nt p.1).bind fun r1=>
  (Ma (vA.m (t.1,(nt (da t.2)),p.1,p.2.1,t.2,p.2.2)) (0,r1.1,r1.2.1,r1.2.2)).bind fun e2=>
  (SP (p.2.2.1,p.2.2.2.1,p.2.2.2.2,e2.1,e2.2.1,e2.2.2)).bind fun r3=>
  cond r3
  ((wP (t.1,(Ea (t.1+(1:Int))),t.2)).bind fun r4=>
  ki ((Ea (t.1-(1:Int))),r4))
  (ki ((Ea (t.1-(1:Int))),t.2)))
  (ke (t.2))
 o:=fun Z p e K=>so K (.exit 6) ⟨[(12,.v (.all 0))],[],[.cells .i],0,0⟩ (((),()),(),e,())
 Dd:=⟨[3,10,11,12,18],[],[],[]⟩
 pe:=[(.exit 6,⟨[12],[],[],[]⟩)]
def zZ{X:Type}(a:p_)(K:(List Int)->Option X):Option X:=
 (Ma (yH.m (a.2,a.2.1,(nt (da a.2.1)),a.1)) (0,([]:List (Int×vb)))).bind fun e1=>
 (Nt a.1).bind fun r2=>
 (Ma (yA.m (a.2.1,a.1)) (e1,([]:List (Int×vb)),[],r2.1,r2.2.1,r2.2.2)).bind fun e3=>
 (Ma (wA.m (a.1,e3.1,e3.2.2)) ((Ea ((nt (da e3.2.1))-(1:Int))),e3.2.1)).bind fun e4=>
 (vP e4).bind fun r5=>
 K r5
def VP:=fun a=>zZ a some
def Zac:Spec:=J'.sp VP
noncomputable def tF:Env:=eE [] (yb [(37,jZ),(14,BH),(44,gac),(23,(alt wZ.tk vZ tZ)),(24,Wac),(45,SY),(46,RY)]) (qL 3 yH.q (qL 12 xA.q (qL 10 yA.q (qL 28 vA.q (qL 24 wA.q qN)))))
theorem iT:LS C tF true [3,11,16,19] 122 (.loop (pc [1,1,0,1,0,0] Tryz.f21)):=fun hc=>
 lO hc yH (by intros;simp only[yH,LD.m,nn])
theorem RM:LS C tF true [3,11,16,19] 122 (.loop (pc [1,1,1,1,1,1,0,0,0,0,1,0,1,0,0] Tryz.f21)):=fun hc=>
 lO hc xA (by intros;simp only[xA,LD.m,nn])
theorem SM:LS C tF true [3,11,16,19] 122 (.loop (pc [1,1,1,1,1,1,0,0,0] Tryz.f21)):=fun hc=>
 lO hc yA (by intros;simp only[yA,LD.m,nn]) (hl:=(nc (by kernel_rfl) (Ua (RM hc) Kb)))
theorem PM:LS C tF true [3,11,16,19] 122 (.loop (pc [1,1,1,1,1,1,1,0,1,0,0,1,0,0,1,0,1,0,0] Tryz.f21)):=fun hc=>
 lO hc vA (by intros;simp only[vA,LD.m,nn])
theorem QM:LS C tF true [3,11,16,19] 122 (.loop (pc [1,1,1,1,1,1,1,0,1,0,0] Tryz.f21)):=fun hc=>
 lO hc wA (by intros;simp only[wA,LD.m,nn]) (hl:=(nc (by kernel_rfl) (Ua (PM hc) Kb)))
theorem aad:OK (7) 21 (J'.sp VP):=
 fO (d:=6) (env:=tF) (Da (cc kZ (cc CH (cc iac (cA xZ (cc uZ (cc Xac (cc fac (cc eac cn))))))))) (fn:=Tryz.f21) (mc:=@zZ) (by intros;simp only[VP,zZ,nn]) (Fa:=[3,11,16,19]) (sh:=(.lit (.int .i64))) (fz:=true) (hl:=fun hc=>(nc (by kernel_rfl) (Ua (iT hc) (Ua (SM hc) (Ua (QM hc) Kb)))))
def N':FS (Y40) (Bool)where
 sk:=⟨(cL [(.lit .i),(.lit .i)]),[],0⟩
 a:=fun u=>(u.1.1,u.1.2.1)
 o:=fun Z a r K=>kv K (.bool) [] 0 r ()
def zH:LD ((Y40)) (Int) ((Unit) ⊕ (Unit))where
 sk:=⟨[(0,.v (.lit .i)),(1,.v (.lit .i)),(5,.i)],[],[],0,0⟩
 p:=fun u=>(u.1.1,u.1.2.1)
 t:=fun u=>u.1.2.2.1
 n:=fun p t=>((p.1,p.2,t,()),(),())
 st:=fun Y p t ki ke=>cond (decide (t<(nt (da p.1))))
  (ask (V.ja t (da p.1)) (ask (V.ja t (da p.2)) (cond (!(decide ((gx p.1 (fa t) (0:Int))=(gx p.2 (fa t) (0:Int)))))
  (ke (.inl ()))
  (ki ((Ea (t+(1:Int))))))))
  (ke (.inr (())))
 o:=fun Z p e K=>Sum.elim (fun e=>so K (.ret) ⟨[(4,.v .bool)],[],[],0,0⟩ ((false,()),(),())) (fun e=>so K (.exit 0) ⟨[],[],[],0,0⟩ ((),(),())) e
 Dd:=⟨[0,1,5],[],[],[]⟩
 pe:=[(.ret,⟨[4],[],[],[]⟩),(.exit 0,⟨[],[],[],[]⟩)]
def AZ{X:Type}(a:Y40)(K:Bool->Option X):Option X:=
 cond (!(decide ((nt (da a.1))=(nt (da a.2)))))
 (K false)
 ((Ma (zH.m a) 0).bind fun e1=>
 Sum.elim (fun e2=>K false)
 (fun e3=>K true) e1)
def XP:=fun a=>AZ a some
def cad:Spec:=N'.sp XP
noncomputable def O':Env:=eE [] (yb []) (qL 4 zH.q qN)
theorem jT:LS C O' true [] 26 (.loop (pc [1,1,0,1,0,0] Tryz.f20)):=fun hc=>
 lO hc zH (by intros;simp only[zH,LD.m,nn])
theorem dad:OK (1) 20 (N'.sp XP):=
 fO (d:=0) (env:=O') (Da cn) (fn:=Tryz.f20) (mc:=@AZ) (by intros;simp only[XP,AZ,nn]) (hl:=fun hc=>(nc (by kernel_rfl) (Ua (jT hc) Kb)))
def W8:FS (Int) (ByteArray)where
 sk:=⟨(.cons .i .nil),[],0⟩
 a:=fun u=>u.1.1
 o:=fun Z a r K=>kv K (.str) [] 0 r ()
def fP{X:Type}(a:Int)(K:ByteArray->Option X):Option X:=
 (jC (a,10)).bind fun r1=>
 K r1
def XJ:=fun a=>fP a some
def Iab:Spec:=W8.sp XJ
noncomputable def Wag:Env:=eE [] (yb [(103,lQ)]) qN
theorem Jab:OK (2) 68 (W8.sp XJ):=
 fO (d:=1) (env:=Wag) (Da (cc P6 cn)) (fn:=Tryz.f68) (mc:=@fP) (by intros;simp only[XJ,fP,nn])
def N9:FS (Int) (ByteArray)where
 sk:=⟨(.cons .i .nil),[],0⟩
 a:=fun u=>u.1.1
 o:=fun Z a r K=>kv K (.str) [] 0 r ()
def BP{X:Type}(a:Int)(K:ByteArray->Option X):Option X:=
 (XJ a).bind fun r1=>
 K r1
def Zl:=fun a=>BP a some
def DM:Spec:=N9.sp Zl
noncomputable def mah:Env:=eE [] (yb [(68,Iab)]) qN
theorem EM:OK (3) 39 (N9.sp Zl):=
 fO (d:=2) (env:=mah) (Da (cc Jab cn)) (fn:=Tryz.f39) (mc:=@BP) (by intros;simp only[Zl,BP,nn])
def L9:FS (ByteArray×Int×Int) (ByteArray)where
 sk:=⟨I4,[],0⟩
 a:=fun u=>(u.1.1,u.1.2.1,u.1.2.2.1)
 o:=fun Z a r K=>kv K (.str) [] 0 r ()
def AP{X:Type}(a:ByteArray×Int×Int)(K:ByteArray->Option X):Option X:=
 ask (decide (za a.1+za (str [32])<=9223372036854775807)) ((Zl a.2.1).bind fun r1=>
 ask (decide (za (a.1++(str [32]))+za r1<=9223372036854775807)) (ask (decide (za ((a.1++(str [32]))++r1)+za (str [32,111,102,32])<=9223372036854775807)) ((Zl a.2.2).bind fun r2=>
 ask (decide (za (((a.1++(str [32]))++r1)++(str [32,111,102,32]))+za r2<=9223372036854775807)) (ask (decide (za ((((a.1++(str [32]))++r1)++(str [32,111,102,32]))++r2)+za (str [10])<=9223372036854775807)) (K (((((a.1++(str [32]))++r1)++(str [32,111,102,32]))++r2)++(str [10])))))))
def PB:=fun a=>AP a some
def mac:Spec:=L9.sp PB
noncomputable def iah:Env:=eE [] (yb [(39,DM)]) qN
theorem nac:OK (4) 40 (L9.sp PB):=
 fO (d:=3) (env:=iah) (Da (cc EM cn)) (fn:=Tryz.f40) (mc:=@AP) (by intros;simp only[PB,AP,nn])
def Y':FS (Y41) (ByteArray)where
 sk:=⟨(cL [(.agg jb),(.agg (cL [(.all 0),(.all 1),(.all 2)]))]),[.cells .bool,.cells (.pair .bool .bool),.cells ya],0⟩
 a:=fun u=>((q8 u.1.1),u.2.1,u.2.2.1,u.t3.1)
 o:=fun Z a r K=>kv K (.str) [.cells .bool,.cells (.pair .bool .bool),.cells ya] 0 r (a.2.1,a.2.2.1,a.t3,())
def dj:LD (Int×Int×Int×Int×(List Wa)×Int×Int×(Bool×Bool)×Ga×Wa×vb×ByteArray) (Int×Int) (Int)where
 sk:=⟨[(2,.loc 0 0),(3,.loc 1 0),(5,.i),(6,.i),(7,.i),(8,.p 3 0),(9,.i),(10,.loc 2 0),(11,.i),(20,.v (.lit Qd)),(21,.i),(22,.i),(31,.v (.agg (cL [.bool,.bool]))),(32,.i)],[jb,(cL [(.all 0),(.all 1),(.all 2)]),Mb],[.cells .bool,.cells (.pair .bool .bool),.cells ya,.um (.all 4),.yp],0,3⟩
 p:=fun u=>(r3 u.1 (u.1.t4.1,(r3 u.1.t6 ((u.1.t9.1.1,u.1.t9.1.2.1),(q8 u.2.1.1),(q8 u.2.1.2.2.1),(q3 u.2.2),u.t6.1))))
 t:=fun u=>(u.1.t5.1,u.1.t10.1)
 n:=fun p t=>((r3 p ((),p.t3.1,t.1,(r3 p.t4 ((p.t7.1.1,p.t7.1.2,()),t.2,())))),((r7 p.t8.1 (p.t8.1.t7,())),((),(),(),()),(r7 p.t9.1 (p.t9.1.t7,())),()),p.t10.1.1,p.t10.1.2.1,p.t10.1.2.2,(),p.t11,())
 st:=fun Y p t ki ke=>cond (decide (t.2<(2:Int)))
  (cond (decide (t.2=(0:Int)))
  (cond p.2.2.2.2.2.2.2.1.1
  (ki ((Ea (t.1+(1:Int))),(Ea (t.2+(1:Int)))))
  (ki (t.1,(Ea (t.2+(1:Int))))))
  (cond (decide (t.2=(1:Int)))
  (cond p.2.2.2.2.2.2.2.1.2
  (ki ((Ea (t.1+(1:Int))),(Ea (t.2+(1:Int)))))
  (ki (t.1,(Ea (t.2+(1:Int))))))
  (none)))
  (ke (t.1))
 o:=fun Z p e K=>so K (.exit 2) ⟨[(2,.loc 0 0),(3,.loc 1 0),(5,.i),(6,.i),(7,.i),(8,.p 3 0),(9,.i),(10,.loc 2 0),(11,.i),(20,.v (.lit Qd)),(21,.i),(22,.i)],[jb,(cL [(.all 0),(.all 1),(.all 2)]),Mb],[.cells .bool,.cells (.pair .bool .bool),.cells ya,.um (.all 4),.yp],0,3⟩ ((r3 p ((),p.t3.1,e,(r3 p.t4 ()))),((r7 p.t8.1 (p.t8.1.t7,())),((),(),(),()),(r7 p.t9.1 (p.t9.1.t7,())),()),p.t10.1.1,p.t10.1.2.1,p.t10.1.2.2,(),p.t11,())
 Dd:=⟨[2,3,5,6,7,8,9,10,11,20,21,22,31,32],[],[],[]⟩
 pe:=[(.exit 2,⟨[2,3,5,6,7,8,9,10,11,20,21,22],[],[],[]⟩)]
def Kq:LD ((List Wa)×Int×(Ga×vb)) (Int×Int×Int×Int×ByteArray) (Int×Int×Int×ByteArray)where
 sk:=⟨[(2,.loc 0 0),(3,.loc 1 0),(5,.i),(6,.i),(7,.i),(8,.p 3 0),(20,.v (.lit Qd)),(21,.i),(22,.i)],[jb,(cL [(.all 0),(.all 1),(.all 2)])],[.cells .bool,.cells (.pair .bool .bool),.cells ya,.um (.all 4),.yp],0,3⟩
 p:=fun u=>(u.1.t4.1,u.1.t5.1,(q8 u.2.1.1),(q3 u.2.2))
 t:=fun u=>(r3 u.1 (u.1.t6.1,u.t6.1))
 n:=fun p t=>((r3 t ((),p.1,p.2.1,t.t3.1,())),((r7 p.2.2.1 (p.2.2.1.t7,())),((),(),(),()),()),p.t3.1,p.t4.1,p.t5,(),t.t4,())
 st:=fun Y p t ki ke=>cond (decide (t.2.2.2.1<p.2.1))
  (ask (V.ja t.2.2.2.1 (da p.1)) (ask (V.ja t.2.2.2.1 (da p.2.2.2.2.1)) ((Ma (dj.m (t.1,t.2.1,t.2.2.1,t.2.2.2.1,p.1,p.2.1,t.2.2.2.1,(gx p.2.2.2.2.1 (fa t.2.2.2.1) (false,false)),p.2.2.1,(gx p.1 (fa t.2.2.2.1) Ta),p.2.2.2,t.2.2.2.2)) (0,0)).bind fun e1=>
  cond (decide ((gx p.1 (fa t.2.2.2.1) Ta).1=(15:Int)))
  (ask (V.ja t.2.2.2.1 (da p.2.2.2.1)) (cond (!(gx p.2.2.2.1 (fa t.2.2.2.1) false))
  ((Zl t.2.2.2.1).bind fun r2=>
  ask (decide (za (str [110,111,32])+za r2<=9223372036854775807)) (ask (decide (za ((str [110,111,32])++r2)+za (str [10])<=9223372036854775807)) ((qp ((((str [110,111,32])++r2)++(str [10])),t.2.2.2.2)).bind fun r3=>
  ki (t.1,(Ea (t.2.1+e1)),(Ea (t.2.2.1+(2:Int))),(Ea (t.2.2.2.1+(1:Int))),r3.2))))
  (ki ((Ea (t.1+(1:Int))),(Ea (t.2.1+e1)),(Ea (t.2.2.1+(2:Int))),(Ea (t.2.2.2.1+(1:Int))),t.2.2.2.2))))
  (cond (decide ((gx p.1 (fa t.2.2.2.1) Ta).1=(21:Int)))
  (ask (V.ja t.2.2.2.1 (da p.2.2.2.1)) (cond (!(gx p.2.2.2.1 (fa t.2.2.2.1) false))
  ((Zl t.2.2.2.1).bind fun r4=>
  ask (decide (za (str [110,111,32])+za r4<=9223372036854775807)) (ask (decide (za ((str [110,111,32])++r4)+za (str [10])<=9223372036854775807)) ((qp ((((str [110,111,32])++r4)++(str [10])),t.2.2.2.2)).bind fun r5=>
  ki (t.1,(Ea (t.2.1+e1)),t.2.2.1,(Ea (t.2.2.2.1+(1:Int))),r5.2))))
  (ki ((Ea (t.1+(1:Int))),(Ea (t.2.1+e1)),t.2.2.1,(Ea (t.2.2.2.1+(1:Int))),t.2.2.2.2))))
  (ask (V.ja t.2.2.2.1 (da p.2.2.2.1)) (cond (!(gx p.2.2.2.1 (fa t.2.2.2.1) false))
  ((Zl t.2.2.2.1).bind fun r6=>
  ask (decide (za (str [110,111,32])+za r6<=9223372036854775807)) (ask (decide (za ((str [110,111,32])++r6)+za (str [10])<=9223372036854775807)) ((qp ((((str [110,111,32])++r6)++(str [10])),t.2.2.2.2)).bind fun r7=>
  ki (t.1,(Ea (t.2.1+e1)),(Ea (t.2.2.1+(1:Int))),(Ea (t.2.2.2.1+(1:Int))),r7.2))))
  (ki ((Ea (t.1+(1:Int))),(Ea (t.2.1+e1)),(Ea (t.2.2.1+(1:Int))),(Ea (t.2.2.2.1+(1:Int))),t.2.2.2.2))))))))
  (ke ((t.1,t.2.1,t.2.2.1,t.2.2.2.2)))
 o:=fun Z p e K=>so K (.exit 0) ⟨[(2,.loc 0 0),(3,.loc 1 0),(5,.i),(6,.i),(7,.i),(8,.p 3 0)],[jb,(cL [(.all 0),(.all 1),(.all 2)])],[.cells .bool,.cells (.pair .bool .bool),.cells ya,.um (.all 4),.yp],0,3⟩ ((r3 e ((),())),((r7 p.2.2.1 (p.2.2.1.t7,())),((),(),(),()),()),p.t3.1,p.t4.1,p.t5,(),e.t3,())
 Dd:=⟨[2,3,5,6,7,8,20,21,22],[],[],[]⟩
 pe:=[(.exit 0,⟨[2,3,5,6,7,8],[],[],[]⟩)]
def jm:LD (Int×Int×Int×(List Wa)×Int×(Ga×vb)) (Int×ByteArray) (ByteArray)where
 sk:=⟨[(2,.loc 0 0),(3,.loc 1 0),(5,.i),(6,.i),(7,.i),(8,.p 3 0),(67,.v (.lit Qd)),(68,.i),(69,.i)],[jb,(cL [(.all 0),(.all 1),(.all 2)])],[.cells .bool,.cells (.pair .bool .bool),.cells ya,.um (.all 4),.yp],0,3⟩
 p:=fun u=>(r3 u.1 (u.1.t4.1,u.1.t5.1,(q8 u.2.1.1),(q3 u.2.2)))
 t:=fun u=>(u.1.t6.1,u.t6.1)
 n:=fun p t=>((r3 p ((),p.t3.1,p.t4.1,t.1,())),((r7 p.t5.1 (p.t5.1.t7,())),((),(),(),()),()),p.t6.1,p.t7.1,p.t8,(),t.2,())
 st:=fun Y p t ki ke=>cond (decide (t.1<p.2.2.2.2.1))
  (ask (V.ja t.1 (da p.2.2.2.1)) (ask (V.ja t.1 (da p.2.2.2.2.2.2.2.1)) (cond (decide ((gx p.2.2.2.1 (fa t.1) Ta).1=(15:Int)))
  (ask (V.ja t.1 (da p.2.2.2.2.2.2.1)) (cond (gx p.2.2.2.2.2.2.1 (fa t.1) false)
  (cond (!((gx p.2.2.2.2.2.2.2.1 (fa t.1) (false,false)).1==(gx p.2.2.2.2.2.2.2.1 (fa t.1) (false,false)).2))
  (cond (gx p.2.2.2.2.2.2.2.1 (fa t.1) (false,false)).2
  ((Zl t.1).bind fun r1=>
  ask (decide (za (str [111,110,101,32,119,97,121,32])+za r1<=9223372036854775807)) (ask (decide (za ((str [111,110,101,32,119,97,121,32])++r1)+za (str [32])<=9223372036854775807)) (ask (decide (za (((str [111,110,101,32,119,97,121,32])++r1)++(str [32]))+za (str [49])<=9223372036854775807)) (ask (decide (za ((((str [111,110,101,32,119,97,121,32])++r1)++(str [32]))++(str [49]))+za (str [10])<=9223372036854775807)) ((qp ((((((str [111,110,101,32,119,97,121,32])++r1)++(str [32]))++(str [49]))++(str [10])),t.2)).bind fun r2=>
  ki ((Ea (t.1+(1:Int))),r2.2))))))
  ((Zl t.1).bind fun r3=>
  ask (decide (za (str [111,110,101,32,119,97,121,32])+za r3<=9223372036854775807)) (ask (decide (za ((str [111,110,101,32,119,97,121,32])++r3)+za (str [32])<=9223372036854775807)) (ask (decide (za (((str [111,110,101,32,119,97,121,32])++r3)++(str [32]))+za (str [48])<=9223372036854775807)) (ask (decide (za ((((str [111,110,101,32,119,97,121,32])++r3)++(str [32]))++(str [48]))+za (str [10])<=9223372036854775807)) ((qp ((((((str [111,110,101,32,119,97,121,32])++r3)++(str [32]))++(str [48]))++(str [10])),t.2)).bind fun r4=>
  ki ((Ea (t.1+(1:Int))),r4.2)))))))
  (ki ((Ea (t.1+(1:Int))),t.2)))
  (ki ((Ea (t.1+(1:Int))),t.2))))
  (ki ((Ea (t.1+(1:Int))),t.2)))))
  (ke (t.2))
 o:=fun Z p e K=>so K (.exit 5) ⟨[(2,.loc 0 0),(3,.loc 1 0),(5,.i),(6,.i),(7,.i),(8,.p 3 0)],[jb,(cL [(.all 0),(.all 1),(.all 2)])],[.cells .bool,.cells (.pair .bool .bool),.cells ya,.um (.all 4),.yp],0,3⟩ ((r3 p ((),())),((r7 p.t5.1 (p.t5.1.t7,())),((),(),(),()),()),p.t6.1,p.t7.1,p.t8,(),e,())
 Dd:=⟨[2,3,5,6,7,8,67,68,69],[],[],[]⟩
 pe:=[(.exit 5,⟨[2,3,5,6,7,8],[],[],[]⟩)]
def cQ{X:Type}(a:Y41)(K:ByteArray->Option X):Option X:=
 (Ma (Kq.m (a.1.1,(nt (da a.1.1)),a)) (0,0,0,0,Rz)).bind fun e1=>
 (Ma (jm.m (e1.1,e1.2.1,e1.2.2.1,a.1.1,(nt (da a.1.1)),a)) (0,e1.2.2.2)).bind fun e2=>
 (PB ((str [112,108,97,99,101,115]),e1.1,(nt (da a.1.1)))).bind fun r3=>
 (PB ((str [119,97,121,115]),e1.2.1,e1.2.2.1)).bind fun r4=>
 ask (decide (za r3+za r4<=9223372036854775807)) (ask (decide (za (r3++r4)+za (str [101,114,114,111,114,115,32])<=9223372036854775807)) ((Zl (nt (da a.2.2.2))).bind fun r5=>
 ask (decide (za ((r3++r4)++(str [101,114,114,111,114,115,32]))+za r5<=9223372036854775807)) (ask (decide (za (((r3++r4)++(str [101,114,114,111,114,115,32]))++r5)+za (str [10])<=9223372036854775807)) ((cZ e2).bind fun r6=>
 ask (decide (za ((((r3++r4)++(str [101,114,114,111,114,115,32]))++r5)++(str [10]))+za r6<=9223372036854775807)) (K (((((r3++r4)++(str [101,114,114,111,114,115,32]))++r5)++(str [10]))++r6))))))
def jz:=fun a=>cQ a some
def HZ:Spec:=Y'.sp jz
noncomputable def bQ:Env:=eE [] (yb [(39,DM),(38,gZ),(40,mac),(41,bZ)]) (qL 8 dj.q (qL 4 Kq.q (qL 24 jm.q qN)))
theorem qT:LS C bQ true [2,3,10,15,16] 127 (.loop (pc [1,1,1,0,1,0,0,1,1,0,0,1,1,0,1,0,0] Tryz.f16)):=fun hc=>
 lO hc dj (by intros;simp only[dj,LD.m,nn])
theorem rT:LS C bQ true [2,3,10,15,16] 127 (.loop (pc [1,1,1,0,1,0,0] Tryz.f16)):=fun hc=>
 lO hc Kq (by intros;simp only[Kq,LD.m,nn]) (hl:=(nc (by kernel_rfl) (Ua (qT hc) Kb)))
theorem cN:LS C bQ true [2,3,10,15,16] 127 (.loop (pc [1,1,1,1,0,1,0,0] Tryz.f16)):=fun hc=>
 lO hc jm (by intros;simp only[jm,LD.m,nn])
theorem IZ:OK (5) 16 (Y'.sp jz):=
 fO (d:=4) (env:=bQ) (Da (cc EM (cc oac (cc nac (cc lac cn))))) (fn:=Tryz.f16) (mc:=@cQ) (by intros;simp only[jz,cQ,nn]) (Fa:=[2,3,10,15,16]) (hl:=fun hc=>(nc (by kernel_rfl) (Ua (rT hc) (Ua (cN hc) Kb))))
def Fag:FS (Unit) (Bool)where
 sk:=⟨.nil,[],0⟩
 a:=fun u=>()
 o:=fun Z a r K=>kv K (.bool) [] 0 r ()
def iab{X:Type}(a:Unit)(K:Bool->Option X):Option X:=
 ask (decide (0<=(0:Int))&&decide ((0:Int)<=(1:Int))&&decide ((1:Int)<=(nt (da ([[],([1]:List Int),([3]:List Int)]:List (List Int)))))) ((vp ((([(17,(0,(0,(0,(0,(0,(1,(-1)))))))),(12,(1,(0,(0,(0,(0,(2,(-1)))))))),(13,(0,(1,(0,(0,(0,(3,(-1)))))))),(1,(2,(0,(0,(3,(0,(4,(-1)))))))),(15,(0,(0,(2,(15,(0,(6,5))))))),(21,(0,(0,(0,(0,(1,((-1),(-1)))))))),(18,(0,(0,(0,(0,(0,(0,(-1))))))))]:List Wa),(0,(3,(0,(([((str [115]),(1,((-5),5)))]:List Cb),(([((str [120]),(1,0))]:List Zb),([],([(0,0),(0,32)]:List Aa)))))))),(List.drop 0 (List.take 1 ([[],([1]:List Int),([3]:List Int)]:List (List Int)))),9)).bind fun r1=>
 (Mt (r1.1,r1.2.1,r1.2.2)).bind fun r2=>
 cond (decide (r2=(3:Int)))
 (ask (decide (0<=(1:Int))&&decide ((1:Int)<=(2:Int))&&decide ((2:Int)<=(nt (da ([[],([1]:List Int),([3]:List Int)]:List (List Int)))))) ((vp ((([(17,(0,(0,(0,(0,(0,(1,(-1)))))))),(12,(1,(0,(0,(0,(0,(2,(-1)))))))),(13,(0,(1,(0,(0,(0,(3,(-1)))))))),(1,(2,(0,(0,(3,(0,(4,(-1)))))))),(15,(0,(0,(2,(15,(0,(6,5))))))),(21,(0,(0,(0,(0,(1,((-1),(-1)))))))),(18,(0,(0,(0,(0,(0,(0,(-1))))))))]:List Wa),(0,(3,(0,(([((str [115]),(1,((-5),5)))]:List Cb),(([((str [120]),(1,0))]:List Zb),([],([(0,0),(0,32)]:List Aa)))))))),(List.drop 1 (List.take 2 ([[],([1]:List Int),([3]:List Int)]:List (List Int)))),9)).bind fun r3=>
 (Mt (r3.1,r3.2.1,r3.2.2)).bind fun r4=>
 cond (decide (r4=(12:Int)))
 (ask (decide (0<=(2:Int))&&decide ((2:Int)<=(nt (da ([[],([1]:List Int),([3]:List Int)]:List (List Int)))))) ((vp ((([(17,(0,(0,(0,(0,(0,(1,(-1)))))))),(12,(1,(0,(0,(0,(0,(2,(-1)))))))),(13,(0,(1,(0,(0,(0,(3,(-1)))))))),(1,(2,(0,(0,(3,(0,(4,(-1)))))))),(15,(0,(0,(2,(15,(0,(6,5))))))),(21,(0,(0,(0,(0,(1,((-1),(-1)))))))),(18,(0,(0,(0,(0,(0,(0,(-1))))))))]:List Wa),(0,(3,(0,(([((str [115]),(1,((-5),5)))]:List Cb),(([((str [120]),(1,0))]:List Zb),([],([(0,0),(0,32)]:List Aa)))))))),(List.drop 2 ([[],([1]:List Int),([3]:List Int)]:List (List Int))),9)).bind fun r5=>
 (Mt (r5.1,r5.2.1,r5.2.2)).bind fun r6=>
 cond (decide (r6=(12:Int)))
 ((vp ((([(17,(0,(0,(0,(0,(0,(1,(-1)))))))),(12,(1,(0,(0,(0,(0,(2,(-1)))))))),(13,(0,(1,(0,(0,(0,(3,(-1)))))))),(1,(2,(0,(0,(3,(0,(4,(-1)))))))),(15,(0,(0,(2,(15,(0,(6,5))))))),(21,(0,(0,(0,(0,(1,((-1),(-1)))))))),(18,(0,(0,(0,(0,(0,(0,(-1))))))))]:List Wa),(0,(3,(0,(([((str [115]),(1,((-5),5)))]:List Cb),(([((str [120]),(1,0))]:List Zb),([],([(0,0),(0,32)]:List Aa)))))))),([[],([1]:List Int),([3]:List Int)]:List (List Int)),9)).bind fun r7=>
 (Mt (r7.1,r7.2.1,r7.2.2)).bind fun r8=>
 cond (decide (r8=(15:Int)))
 ((VP ((([(17,(0,(0,(0,(0,(0,(1,(-1)))))))),(12,(1,(0,(0,(0,(0,(2,(-1)))))))),(13,(0,(1,(0,(0,(0,(3,(-1)))))))),(1,(2,(0,(0,(3,(0,(4,(-1)))))))),(15,(0,(0,(2,(15,(0,(6,5))))))),(21,(0,(0,(0,(0,(1,((-1),(-1)))))))),(18,(0,(0,(0,(0,(0,(0,(-1))))))))]:List Wa),(0,(3,(0,(([((str [115]),(1,((-5),5)))]:List Cb),(([((str [120]),(1,0))]:List Zb),([],([(0,0),(0,32)]:List Aa)))))))),([[],([1]:List Int),([3]:List Int)]:List (List Int)),9)).bind fun r9=>
 (XP (r9,([1,2]:List Int))).bind fun Zh=>
 cond Zh
 (ask (decide (0<=(1:Int))&&decide ((1:Int)<=(2:Int))&&decide ((2:Int)<=(nt (da ([[],([1]:List Int),([3]:List Int)]:List (List Int)))))) ((vp ((([(17,(0,(0,(0,(0,(0,(1,(-1)))))))),(12,(1,(0,(0,(0,(0,(2,(-1)))))))),(13,(0,(1,(0,(0,(0,(3,(-1)))))))),(1,(2,(0,(0,(3,(0,(4,(-1)))))))),(15,(0,(0,(2,(15,(0,(6,5))))))),(21,(0,(0,(0,(0,(1,((-1),(-1)))))))),(18,(0,(0,(0,(0,(0,(0,(-1))))))))]:List Wa),(0,(3,(0,(([((str [115]),(1,((-5),5)))]:List Cb),(([((str [120]),(1,0))]:List Zb),([],([(0,0),(0,32)]:List Aa)))))))),(List.drop 1 (List.take 2 ([[],([1]:List Int),([3]:List Int)]:List (List Int)))),9)).bind fun Eg=>
 (jz ((([(17,(0,(0,(0,(0,(0,(1,(-1)))))))),(12,(1,(0,(0,(0,(0,(2,(-1)))))))),(13,(0,(1,(0,(0,(0,(3,(-1)))))))),(1,(2,(0,(0,(3,(0,(4,(-1)))))))),(15,(0,(0,(2,(15,(0,(6,5))))))),(21,(0,(0,(0,(0,(1,((-1),(-1)))))))),(18,(0,(0,(0,(0,(0,(0,(-1))))))))]:List Wa),(0,(3,(0,(([((str [115]),(1,((-5),5)))]:List Cb),(([((str [120]),(1,0))]:List Zb),([],([(0,0),(0,32)]:List Aa)))))))),Eg.1,Eg.2.1,Eg.2.2)).bind fun Z1=>
 K (Z1.toList==(str [112,108,97,99,101,115,32,54,32,111,102,32,55,10,119,97,121,115,32,54,32,111,102,32,55,10,101,114,114,111,114,115,32,48,10,110,111,32,53,10,111,110,101,32,119,97,121,32,52,32,48,10]).toList)))
 (K false))
 (K false))
 (K false)))
 (K false)))
 (K false))
def WR:=fun a=>iab a some
def Eag:Spec:=Fag.sp WR
noncomputable def kal:Env:=eE [] (yb [(34,xac),(12,MZ),(18,BZ),(21,Zac),(20,cad),(16,HZ)]) qN
theorem Gag:OK (8) 9 (Fag.sp WR):=
 fO (d:=7) (env:=kal) (Da (cc yac (cc NZ (cc CZ (cc aad (cc dad (cc IZ cn))))))) (fn:=Tryz.f9) (mc:=@iab) (by intros;simp only[WR,iab,nn]) (Fa:=[1,2000004,2000005,2000006,2000040])
end
end Go.U
end
