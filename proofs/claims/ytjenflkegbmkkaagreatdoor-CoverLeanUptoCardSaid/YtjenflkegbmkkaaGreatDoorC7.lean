/- The functions of the program as Lean functions, and that the evaluator says so. -/
import Derived.Test.YtjenflkegbmkkaaGreatDoorC6
set_option linter.unusedVariables false
set_option linter.unusedSimpArgs false
set_option linter.unusedSectionVars false
open ByteArray renaming size→Ua
open Int renaming toNat→fa
open List renaming length→da
section
set_option maxRecDepth 100000
namespace Go.U
open Go Go.Proofs
noncomputable section
variable {C:V.Callee}
def IQ:FS (Y3) (Y3)where
 sk:=⟨(cL [(.agg (cL [(.all 0),(.all 1),(.all 2)])),(.agg (cL [.Ya,.Ya,.Ya]))]),[.cells .bool,.cells (.pair .bool .bool),.cells ya],0⟩
 a:=fun u=>(u.2.1,u.2.2.1,u.t3.1)
 o:=fun Z a r K=>kv K (.agg (cL [(.all 3),(.all 4),(.all 5)])) [.cells .bool,.cells (.pair .bool .bool),.cells ya,.cells .bool,.cells (.pair .bool .bool),.cells ya] 0 ((),(),(),()) (a.1,a.2.1,a.2.2,r.1,r.2.1,r.2.2,())
def Ew:PD (E8) (Y3)where
 sk:=⟨[(4,.p 3 0),(5,.p 4 0),(18,.v (.fn 69 (.cons (.ptr 8 0) .nil)))],[],[.cells .bool,.cells (.pair .bool .bool),.cells ya,.Za (cL [.Ya,.Ya,.Ya]),.Za kr9,.cells .bool,.cells (.pair .bool .bool),.cells ya,.Za (cL [.Ya,.Ya,.Ya])],0,3⟩
 p:=fun u=>((q3 u.2.2),u.t7.1,u.t8.1,u.t9.1)
 st:=fun Y p ke=>(CA (p.2.1,p.2.2.1,p.2.2.2)).bind fun r1=>
  ke ((r1.1,r1.2.1,r1.2.2))
 o:=fun Z p e K=>so K (.normal) ⟨[(4,.p 3 0),(5,.p 4 0)],[],[.cells .bool,.cells (.pair .bool .bool),.cells ya,.Za (cL [.Ya,.Ya,.Ya]),.Za kr9,.cells .bool,.cells (.pair .bool .bool),.cells ya],0,3⟩ (((),(),()),(),p.1.1,p.1.2.1,p.1.2.2,((),(),(),()),((),(),(),()),e.1,e.2.1,e.2.2,())
 Kd:=⟨[4,5,18],[],[],[]⟩
 pe:=[(.normal,⟨[4,5],[],[],[]⟩)]
def eI{X:Type}(a:Y3)(K:Y3->Option X):Option X:=
 (pQ a.1).bind fun r1=>
 (oQ a.2.1).bind fun r2=>
 (nQ a.2.2).bind fun r3=>
 (Ew.m (a,r1,r2,r3)).bind fun e4=>
 (GF e4.2.2).bind fun r5=>
 K (e4.1,e4.2.1,r5)
def vt:=fun a=>eI a some
def M0:Spec:=IQ.sp vt
noncomputable def dI:Env:=eE [] (mb [(47,wN),(48,vN),(49,uN),(43,PZ),(69,iZ),(51,oN)]) (qL 3 Ew.q qN)
theorem QK:LS C dI true [] 63 (rfC (pc [1,1,0,1,0] Tryz.f23)):=fun hc=>
 rO (env:=dI) hc (id:=230003) (ks:=[5]) Ew (by intros;simp only[Ew,PD.m,nn])
theorem N0:OK (6) 23 (IQ.sp vt):=
 fO (d:=5) (env:=dI) (Da (cc LZ (cc KZ (cc JZ (cc QZ (cc jZ (cc IZ cn))))))) (fn:=Tryz.f23) (mc:=@eI) (by intros;simp only[vt,eI,nn]) (sh:=(.agg [(.own .bool),(.own (.pair .bool .bool)),(.own ya)])) (hl:=fun hc=>(nc (by kernel_rfl) (Va (QK hc) Mb)))
def rR:FS (Int×Int×Int×Int×(List Bool)×(List (Bool×Bool))×(List za)×Bool) ((Unit) ⊕ (Unit))where
 sk:=⟨(cL [(.yl 0),(.agg FB)]),[.loop 240002 [(3,(.ptr 1 0)),(4,(.ptr 5 0))] .ready .normal,.Za zM,.cells .bool,.cells (.pair .bool .bool),.cells ya,.Za (.cons .bool .nil)],0⟩
 a:=fun u=>(r4 u.1.2.1 (r3 u.t3 u.t6.1.1))
 o:=fun Z a r K=>Sum.elim (fun e=>kv K (.bool) [.loop 240002 [(3,(.ptr 1 0)),(4,(.ptr 5 0))] .done .ret,.Za zM,.cells .bool,.cells (.pair .bool .bool),.cells ya,.Za (.cons .bool .nil)] 0 false (((),(),()),((),(),(),()),(r3 a.t4 ((false,()),())))) (fun e=>kv K (.bool) [.loop 240002 [(3,(.ptr 1 0)),(4,(.ptr 5 0))] .ready .normal,.Za zM,.cells .bool,.cells (.pair .bool .bool),.cells ya,.Za (.cons .bool .nil)] 0 true (((),(),()),((),(),(),()),(r3 a.t4 ((a.t7,()),())))) r
def vx{X:Type}(a:Int×Int×Int×Int×(List Bool)×(List (Bool×Bool))×(List za)×Bool)(K:(Unit) ⊕ (Unit)->Option X):Option X:=
 (Zg ((a.1,(a.2.1,(a.2.2.1,a.2.2.2.1))),a.2.2.2.2.1,a.2.2.2.2.2.1,a.2.2.2.2.2.2.1)).bind fun r1=>
 cond (!r1)
 (K (.inl ()))
 (K (.inr (())))
def Rh:=fun a=>vx a some
def TA:Spec:=rR.sp Rh
noncomputable def sR:Env:=eE [] (mb [(50,rN)]) qN
theorem PL:OKY (4) TA:=
 u5 (d:=3) (env:=sR) (Da (cc sN cn)) (id:=240002) (r:=rfT 240002) rfl (fun hc=>(nc (by kernel_rfl) Mb)) (fun hc=>(nc (by kernel_rfl) Mb)) (mc:=fun X a K=>vx a K) (fun _ _ _=>by kernel_rfl) (by intros;simp only[Rh,vx,nn])
def OP:FS (Y35) ((Unit) ⊕ (Unit))where
 sk:=⟨(cL [(.yl 4),(.ptr 0 0)]),[.Za Vj,.cells .bool,.cells (.pair .bool .bool),.cells ya,.loop 240002 [(3,(.ptr 5 0)),(4,(.ptr 9 0))] .ready .normal,.Za Bu,.cells .bool,.cells (.pair .bool .bool),.cells ya,.Za (.cons .bool .nil)],0⟩
 a:=fun u=>(r3 u.2.2 (r3 u.t7 u.t10.1.1))
 o:=fun Z a r K=>Sum.elim (fun e=>kv K (.Qc .nil) [.Za Vj,.cells .bool,.cells (.pair .bool .bool),.cells ya,.loop 240002 [(3,(.ptr 5 0)),(4,(.ptr 9 0))] .done .ret,.Za Bu,.cells .bool,.cells (.pair .bool .bool),.cells ya,.Za (.cons .bool .nil)] 0 () (((),(),(),()),(r3 a (((),(),()),((),(),(),()),(r3 a.t3 ((false,()),())))))) (fun e=>kv K (.Qc .nil) [.Za Vj,.cells .bool,.cells (.pair .bool .bool),.cells ya,.loop 240002 [(3,(.ptr 5 0)),(4,(.ptr 9 0))] .ready .normal,.Za Bu,.cells .bool,.cells (.pair .bool .bool),.cells ya,.Za (.cons .bool .nil)] 0 () (((),(),(),()),(r3 a (((),(),()),((),(),(),()),(r3 a.t3 ((a.t6,()),())))))) r
def Kj:LD (Int×((List Bool)×((List (Bool×Bool))×((List za)×((List Bool)×(Y36)))))) (Int) ((Unit) ⊕ (Unit))where
 sk:=⟨[(0,.v (.yl 4)),(1,.p 0 0),(12,.v (.all 1)),(13,.i),(14,.i)],[],[.Za Vj,.cells .bool,.cells (.pair .bool .bool),.cells ya,.loop 240002 [(3,(.ptr 5 0)),(4,(.ptr 9 0))] .ready .normal,.Za Bu,.cells .bool,.cells (.pair .bool .bool),.cells ya,.Za (.cons .bool .nil)],0,10⟩
 p:=fun u=>(u.1.t3.1,u.t3.1,(u.t4.1,(u.t5.1,(u.t8.1,(u.t9.1,(u.t10.1,u.t11.1.1))))))
 t:=fun u=>u.1.t4.1
 n:=fun p t=>(((),(),(),p.1,t,()),(),((),(),(),()),(r3 p.2 (((),(),()),((),(),(),()),(r3 p.t4 ((p.t7,()),())))))
 st:=fun Y p t ki ke=>cond (decide (t<p.1))
  (ask (V.ja t (da p.2.1)) (cond (gx p.2.1 (fa t) false)
  ((Rh (0,t,0,0,p.2.2.2.2.1,p.2.2.2.2.2.1,p.2.2.2.2.2.2.1,p.2.2.2.2.2.2.2)).bind fun r1=>
  Sum.elim (fun r2=>ke (.inl ()))
  (fun r3=>ki ((Ea (t+(1:Int))))) r1)
  (ki ((Ea (t+(1:Int)))))))
  (ke (.inr (())))
 o:=fun Z p e K=>Sum.elim (fun e=>so K (.ret) ⟨[],[],[.Za Vj,.cells .bool,.cells (.pair .bool .bool),.cells ya,.loop 240002 [(3,(.ptr 5 0)),(4,(.ptr 9 0))] .done .ret,.Za Bu,.cells .bool,.cells (.pair .bool .bool),.cells ya,.Za (.cons .bool .nil)],0,10⟩ ((),(),((),(),(),()),(r3 p.2 (((),(),()),((),(),(),()),(r3 p.t4 ((false,()),())))))) (fun e=>so K (.exit 0) ⟨[(0,.v (.yl 4)),(1,.p 0 0)],[],[.Za Vj,.cells .bool,.cells (.pair .bool .bool),.cells ya,.loop 240002 [(3,(.ptr 5 0)),(4,(.ptr 9 0))] .ready .normal,.Za Bu,.cells .bool,.cells (.pair .bool .bool),.cells ya,.Za (.cons .bool .nil)],0,10⟩ (((),(),()),(),((),(),(),()),(r3 p.2 (((),(),()),((),(),(),()),(r3 p.t4 ((p.t7,()),())))))) e
 Kd:=⟨[0,1,12,13,14],[],[],[]⟩
 pe:=[(.ret,⟨[],[],[],[]⟩),(.exit 0,⟨[0,1],[],[],[]⟩)]
def Uf:LD (Int×Int×Int×(Bool×Bool)×((List Bool)×((List (Bool×Bool))×((List za)×((List Bool)×(Y36)))))) (Int) ((Unit) ⊕ (Unit))where
 sk:=⟨[(0,.v (.yl 4)),(1,.p 0 0),(5,.i),(29,.v (.all 2)),(30,.i),(31,.i),(36,.v (.agg (cL [.bool,.bool]))),(37,.i)],[],[.Za Vj,.cells .bool,.cells (.pair .bool .bool),.cells ya,.loop 240002 [(3,(.ptr 5 0)),(4,(.ptr 9 0))] .ready .normal,.Za Bu,.cells .bool,.cells (.pair .bool .bool),.cells ya,.Za (.cons .bool .nil)],0,10⟩
 p:=fun u=>(u.1.2.2.1,u.1.t4.1,u.1.t5.1,(u.1.t6.1.1,u.1.t6.1.2.1),u.t3.1,(u.t4.1,(u.t5.1,(u.t8.1,(u.t9.1,(u.t10.1,u.t11.1.1))))))
 t:=fun u=>u.1.t7.1
 n:=fun p t=>(((),(),p.1,(),p.2.1,p.2.2.1,(p.t3.1.1,p.t3.1.2,()),t,()),(),((),(),(),()),(r3 p.t4 (((),(),()),((),(),(),()),(r3 p.t7 ((p.t10,()),())))))
 st:=fun Y p t ki ke=>cond (decide (t<(2:Int)))
  (cond (decide (t=(0:Int)))
  (cond p.2.2.2.1.1
  ((Rh ((Ea ((1:Int)+t)),p.1,0,0,p.2.2.2.2.2.2.2.1,p.2.2.2.2.2.2.2.2.1,p.2.2.2.2.2.2.2.2.2.1,p.2.2.2.2.2.2.2.2.2.2)).bind fun r1=>
  Sum.elim (fun r2=>ke (.inl ()))
  (fun r3=>ki ((Ea (t+(1:Int))))) r1)
  (ki ((Ea (t+(1:Int))))))
  (cond (decide (t=(1:Int)))
  (cond p.2.2.2.1.2
  ((Rh ((Ea ((1:Int)+t)),p.1,0,0,p.2.2.2.2.2.2.2.1,p.2.2.2.2.2.2.2.2.1,p.2.2.2.2.2.2.2.2.2.1,p.2.2.2.2.2.2.2.2.2.2)).bind fun r4=>
  Sum.elim (fun r5=>ke (.inl ()))
  (fun r6=>ki ((Ea (t+(1:Int))))) r4)
  (ki ((Ea (t+(1:Int))))))
  (none)))
  (ke (.inr (())))
 o:=fun Z p e K=>Sum.elim (fun e=>so K (.ret) ⟨[],[],[.Za Vj,.cells .bool,.cells (.pair .bool .bool),.cells ya,.loop 240002 [(3,(.ptr 5 0)),(4,(.ptr 9 0))] .done .ret,.Za Bu,.cells .bool,.cells (.pair .bool .bool),.cells ya,.Za (.cons .bool .nil)],0,10⟩ ((),(),((),(),(),()),(r3 p.t4 (((),(),()),((),(),(),()),(r3 p.t7 ((false,()),())))))) (fun e=>so K (.exit 4) ⟨[(0,.v (.yl 4)),(1,.p 0 0),(29,.v (.all 2)),(30,.i),(31,.i)],[],[.Za Vj,.cells .bool,.cells (.pair .bool .bool),.cells ya,.loop 240002 [(3,(.ptr 5 0)),(4,(.ptr 9 0))] .ready .normal,.Za Bu,.cells .bool,.cells (.pair .bool .bool),.cells ya,.Za (.cons .bool .nil)],0,10⟩ (((),(),(),p.2.1,p.2.2.1,()),(),((),(),(),()),(r3 p.t4 (((),(),()),((),(),(),()),(r3 p.t7 ((p.t10,()),())))))) e
 Kd:=⟨[0,1,5,29,30,31,36,37],[],[],[]⟩
 pe:=[(.ret,⟨[],[],[],[]⟩),(.exit 4,⟨[0,1,29,30,31],[],[],[]⟩)]
def Jj:LD (Int×((List Bool)×((List (Bool×Bool))×((List za)×((List Bool)×(Y36)))))) (Int) ((Unit) ⊕ (Unit))where
 sk:=⟨[(0,.v (.yl 4)),(1,.p 0 0),(29,.v (.all 2)),(30,.i),(31,.i)],[],[.Za Vj,.cells .bool,.cells (.pair .bool .bool),.cells ya,.loop 240002 [(3,(.ptr 5 0)),(4,(.ptr 9 0))] .ready .normal,.Za Bu,.cells .bool,.cells (.pair .bool .bool),.cells ya,.Za (.cons .bool .nil)],0,10⟩
 p:=fun u=>(u.1.t3.1,u.t3.1,(u.t4.1,(u.t5.1,(u.t8.1,(u.t9.1,(u.t10.1,u.t11.1.1))))))
 t:=fun u=>u.1.t4.1
 n:=fun p t=>(((),(),(),p.1,t,()),(),((),(),(),()),(r3 p.2 (((),(),()),((),(),(),()),(r3 p.t4 ((p.t7,()),())))))
 st:=fun Y p t ki ke=>cond (decide (t<p.1))
  (ask (V.ja t (da p.2.2.1)) ((Ia (Uf.m (t,p.1,t,(gx p.2.2.1 (fa t) (false,false)),p.2)) 0).bind fun e1=>
  Sum.elim (fun e2=>ke (.inl ()))
  (fun e3=>ki ((Ea (t+(1:Int))))) e1))
  (ke (.inr (())))
 o:=fun Z p e K=>Sum.elim (fun e=>so K (.ret) ⟨[],[],[.Za Vj,.cells .bool,.cells (.pair .bool .bool),.cells ya,.loop 240002 [(3,(.ptr 5 0)),(4,(.ptr 9 0))] .done .ret,.Za Bu,.cells .bool,.cells (.pair .bool .bool),.cells ya,.Za (.cons .bool .nil)],0,10⟩ ((),(),((),(),(),()),(r3 p.2 (((),(),()),((),(),(),()),(r3 p.t4 ((false,()),())))))) (fun e=>so K (.exit 2) ⟨[(0,.v (.yl 4)),(1,.p 0 0)],[],[.Za Vj,.cells .bool,.cells (.pair .bool .bool),.cells ya,.loop 240002 [(3,(.ptr 5 0)),(4,(.ptr 9 0))] .ready .normal,.Za Bu,.cells .bool,.cells (.pair .bool .bool),.cells ya,.Za (.cons .bool .nil)],0,10⟩ (((),(),()),(),((),(),(),()),(r3 p.2 (((),(),()),((),(),(),()),(r3 p.t4 ((p.t7,()),())))))) e
 Kd:=⟨[0,1,29,30,31],[],[],[]⟩
 pe:=[(.ret,⟨[],[],[],[]⟩),(.exit 2,⟨[0,1],[],[],[]⟩)]
def Yh:LD (Int×((List Bool)×((List (Bool×Bool))×((List za)×((List Bool)×(Y36)))))) (Int) ((Unit) ⊕ (Unit))where
 sk:=⟨[(0,.v (.yl 4)),(54,.v (.all 3)),(55,.i),(56,.i)],[],[.Za Vj,.cells .bool,.cells (.pair .bool .bool),.cells ya,.loop 240002 [(3,(.ptr 5 0)),(4,(.ptr 9 0))] .ready .normal,.Za Bu,.cells .bool,.cells (.pair .bool .bool),.cells ya,.Za (.cons .bool .nil)],0,10⟩
 p:=fun u=>(u.1.2.2.1,u.t3.1,(u.t4.1,(u.t5.1,(u.t8.1,(u.t9.1,(u.t10.1,u.t11.1.1))))))
 t:=fun u=>u.1.t3.1
 n:=fun p t=>(((),(),p.1,t,()),(),((),(),(),()),(r3 p.2 (((),(),()),((),(),(),()),(r3 p.t4 ((p.t7,()),())))))
 st:=fun Y p t ki ke=>cond (decide (t<p.1))
  (ask (V.ja t (da p.2.2.2.1)) ((Rh (3,0,(gx p.2.2.2.1 (fa t) vb).1,(gx p.2.2.2.1 (fa t) vb).2,p.2.2.2.2.1,p.2.2.2.2.2.1,p.2.2.2.2.2.2.1,p.2.2.2.2.2.2.2)).bind fun r1=>
  Sum.elim (fun r2=>ke (.inl ()))
  (fun r3=>ki ((Ea (t+(1:Int))))) r1))
  (ke (.inr (())))
 o:=fun Z p e K=>Sum.elim (fun e=>so K (.ret) ⟨[],[],[.Za Vj,.cells .bool,.cells (.pair .bool .bool),.cells ya,.loop 240002 [(3,(.ptr 5 0)),(4,(.ptr 9 0))] .done .ret,.Za Bu,.cells .bool,.cells (.pair .bool .bool),.cells ya,.Za (.cons .bool .nil)],0,10⟩ ((),(),((),(),(),()),(r3 p.2 (((),(),()),((),(),(),()),(r3 p.t4 ((false,()),())))))) (fun e=>so K (.exit 6) ⟨[],[],[.Za Vj,.cells .bool,.cells (.pair .bool .bool),.cells ya,.loop 240002 [(3,(.ptr 5 0)),(4,(.ptr 9 0))] .ready .normal,.Za Bu,.cells .bool,.cells (.pair .bool .bool),.cells ya,.Za (.cons .bool .nil)],0,10⟩ ((),(),((),(),(),()),(r3 p.2 (((),(),()),((),(),(),()),(r3 p.t4 ((p.t7,()),())))))) e
 Kd:=⟨[0,54,55,56],[],[],[]⟩
 pe:=[(.ret,⟨[],[],[],[]⟩),(.exit 6,⟨[],[],[],[]⟩)]
def BA{X:Type}(a:Y35)(K:(Unit) ⊕ (Unit)->Option X):Option X:=
 (Ia (Kj.m ((nt (da a.1)),a)) 0).bind fun e1=>
 Sum.elim (fun e2=>K (.inl ()))
 (fun e3=>(Ia (Jj.m ((nt (da a.2.1)),a)) 0).bind fun e4=>
 Sum.elim (fun e5=>K (.inl ()))
 (fun e6=>(Ia (Yh.m ((nt (da a.2.2.1)),a)) 0).bind fun e7=>
 Sum.elim (fun e8=>K (.inl ()))
 (fun e9=>K (.inr (()))) e7) e4) e1
def Ys:=fun a=>BA a some
def eZ:Spec:=OP.sp Ys
noncomputable def ow:Env:=eE [] (Et [] [(240002,TA)]) (qL 1 Kj.q (qL 9 Uf.q (qL 6 Jj.q (qL 15 Yh.q qN))))
theorem uK:LS C ow true [6,10] 66 (.loop (pc [0,1,0,0] Tryz.f69)):=fun hc=>
 lO hc Kj (by intros;simp only[Kj,LD.m,nn])
theorem sK:LS C ow true [6,10] 66 (.loop (pc [1,0,1,0,0,1,1,0,0,1,1,0,0] Tryz.f69)):=fun hc=>
 lO hc Uf (by intros;simp only[Uf,LD.m,nn])
theorem tK:LS C ow true [6,10] 66 (.loop (pc [1,0,1,0,0] Tryz.f69)):=fun hc=>
 lO hc Jj (by intros;simp only[Jj,LD.m,nn]) (hl:=(nc (by kernel_rfl) (Va (sK hc) Mb)))
theorem MH:LS C ow true [6,10] 66 (.loop (pc [1,1,1,0,0] Tryz.f69)):=fun hc=>
 lO hc Yh (by intros;simp only[Yh,LD.m,nn])
theorem gZ:OK (5) 69 (OP.sp Ys):=
 fO (d:=4) (env:=ow) (Mj cn (ccy PL cyn)) (fn:=Tryz.f69) (mc:=@BA) (by intros;simp only[Ys,BA,nn]) (Fa:=[6,10]) (hl:=fun hc=>(nc (by kernel_rfl) (Va (uK hc) (Va (tK hc) (Va (MH hc) Mb)))))
def G_:FS (Y37) (Bool)where
 sk:=⟨(cL [(.agg (cL [(.all 0),(.all 1),(.all 2)])),(.agg (cL [(.all 3),(.all 4),(.all 5)]))]),[.cells .bool,.cells (.pair .bool .bool),.cells ya,.cells .bool,.cells (.pair .bool .bool),.cells ya],0⟩
 a:=fun u=>(r5 u.2 u.t6.1)
 o:=fun Z a r K=>kv K (.bool) [.cells .bool,.cells (.pair .bool .bool),.cells ya,.cells .bool,.cells (.pair .bool .bool),.cells ya] 0 r (r5 a (a.t5,()))
def nC:PD (((List Bool)×(Y38))×Bool) ((Unit) ⊕ (Unit))where
 sk:=⟨[(3,.p 6 0),(4,.p 7 0),(7,.v (.fn 69 (.cons (.ptr 8 0) .nil)))],[],[.cells .bool,.cells (.pair .bool .bool),.cells ya,.cells .bool,.cells (.pair .bool .bool),.cells ya,.Za iS,.Za (.cons .bool .nil),.Za V5],0,6⟩
 p:=fun u=>((q6 u.2.2),u.t9.1.1)
 st:=fun Y p ke=>(Ys (p.1.1,p.1.2.1,p.1.2.2.1,p.1.2.2.2.1,p.1.2.2.2.2.1,p.1.2.2.2.2.2,p.2)).bind fun r1=>
  Sum.elim (fun r2=>ke (.inl ()))
  (fun r3=>ke (.inr (()))) r1
 o:=fun Z p e K=>Sum.elim (fun e=>so K (.ret) ⟨[(4,.p 6 0)],[],[.cells .bool,.cells (.pair .bool .bool),.cells ya,.cells .bool,.cells (.pair .bool .bool),.cells ya,.Za (.cons .bool .nil)],0,6⟩ (((),()),(),(r5 p.1 (p.1.t5,(false,()),())))) (fun e=>so K (.normal) ⟨[(4,.p 6 0)],[],[.cells .bool,.cells (.pair .bool .bool),.cells ya,.cells .bool,.cells (.pair .bool .bool),.cells ya,.Za (.cons .bool .nil)],0,6⟩ (((),()),(),(r5 p.1 (p.1.t5,(p.2,()),())))) e
 Kd:=⟨[3,4,7],[],[],[]⟩
 pe:=[(.ret,⟨[4],[],[],[]⟩),(.normal,⟨[4],[],[],[]⟩)]
def HQ{X:Type}(a:Y37)(K:Bool->Option X):Option X:=
 (nC.m (a,false)).bind fun e1=>
 Sum.elim (fun e2=>K false)
 (fun e3=>K true) e1
def oC:=fun a=>HQ a some
def Rad:Spec:=G_.sp oC
noncomputable def L0:Env:=eE [] (mb [(43,KK),(69,eZ)]) (qL 2 nC.q qN)
theorem YT:LS C L0 true [] 13 (rfC (pc [1,0,1,0] Tryz.f24)):=fun hc=>
 rO (env:=L0) hc (id:=240002) (ks:=[3,4]) nC (by intros;simp only[nC,PD.m,nn])
theorem Sad:OK (6) 24 (G_.sp oC):=
 fO (d:=5) (env:=L0) (Da (cc LK (cc gZ cn))) (fn:=Tryz.f24) (mc:=@HQ) (by intros;simp only[oC,HQ,nn]) (hl:=fun hc=>(nc (by kernel_rfl) (Va (YT hc) Mb)))
def I_:FS (Y31) ((List Int))where
 sk:=⟨(cL [(.agg zb),(.lit (.slice .i)),.i]),[],0⟩
 a:=fun u=>((q8 u.1.1),u.1.2.1,u.1.2.2.1)
 o:=fun Z a r K=>kv K (.lit .i) [] 0 r ()
def br:LD ((Y39)×(List (List Int))×Int×Ga) (Int×(List (Int×Pa))) ((List (Int×Pa)))where
 sk:=⟨[(1,.v (.lit (.slice .i))),(2,.i),(3,.loc 0 0),(7,.v (.mp 0)),(23,.v (.lit (.slice .i))),(24,.i),(25,.i)],[zb],[.vh .i true De],0,0⟩
 p:=fun u=>((u.1.1,u.1.2.1),u.1.t3.1,u.1.t4.1,u.2.1.1.1,(q7 u.2.1.1.2))
 t:=fun u=>(u.1.t5.1,u.2.2.1)
 n:=fun p t=>((p.1.1,p.1.2,(),p.2.1,p.2.2.1,t.1,()),((r7 p.t3 (p.t10,())),()),t.2,())
 st:=fun Y p t ki ke=>cond (decide (t.1<p.2.2.1))
  (ask (V.ja t.1 (da p.2.1)) ((jC (p.2.2.2,(gx p.2.1 (fa t.1) []),p.1.2)).bind fun r1=>
  ki ((Ea (t.1+(1:Int))),(Ix (k:=(.int .i64)) t.1 r1.1 t.2))))
  (ke (t.2))
 o:=fun Z p e K=>so K (.exit 0) ⟨[(1,.v (.lit (.slice .i))),(3,.loc 0 0),(7,.v (.mp 0))],[zb],[.vh .i true De],0,0⟩ ((p.1.1,(),()),((r7 p.t3 (p.t10,())),()),e,())
 Kd:=⟨[1,2,3,7,23,24,25],[],[],[]⟩
 pe:=[(.exit 0,⟨[1,3,7],[],[],[]⟩)]
def Dk:LD ((List (List Int))×Int×Ga×((List (Int×Pa))×((List (Int×Pa))×((List Int)×Pa)))) (Int×Int×Int) (Int)where
 sk:=⟨[(1,.v (.lit (.slice .i))),(3,.loc 0 0),(7,.v (.mp 0)),(10,.v (.mp 1)),(11,.loc 1 0),(12,.v (.all 2)),(13,.i),(14,.i),(45,.i),(46,.i)],[zb,(cL [(.all 3),(.all 4),(.all 5)])],[.vh .i true De,.vh .i true De,.cells .i,.cells .bool,.cells (.pair .bool .bool),.cells ya],0,0⟩
 p:=fun u=>(u.1.1,u.1.t6.1,(q8 u.2.1.1),u.2.2.1,(q5 u.t3))
 t:=fun u=>(u.1.t4.1,u.1.t5.1,u.1.t7.1)
 n:=fun p t=>((p.1,(),(),(),t.1,t.2.1,p.2.1,t.2.2,()),((r7 p.2.2.1 (p.2.2.1.t7,())),((),(),(),()),()),(r5 p.t3 (p.t8,())))
 st:=fun Y p t ki ke=>cond (decide (t.2.2<p.2.1))
  (cond (QB (k:=(.int .i64)) t.2.2 p.2.2.2.1)
  ((iC ((Eu (k:=(.int .i64)) t.2.2 vj p.2.2.2.1),p.2.2.2.2.2.2.1,p.2.2.2.2.2.2.2.1,p.2.2.2.2.2.2.2.2)).bind fun r1=>
  cond (decide (t.2.1<r1))
  ((iC ((Eu (k:=(.int .i64)) t.2.2 vj p.2.2.2.1),p.2.2.2.2.2.2.1,p.2.2.2.2.2.2.2.1,p.2.2.2.2.2.2.2.2)).bind fun r2=>
  ki (t.2.2,r2,(Ea (t.2.2+(1:Int)))))
  (ki (t.1,t.2.1,(Ea (t.2.2+(1:Int))))))
  (ki (t.1,t.2.1,(Ea (t.2.2+(1:Int))))))
  (ke (t.1))
 o:=fun Z p e K=>so K (.exit 4) ⟨[(1,.v (.lit (.slice .i))),(3,.loc 0 0),(7,.v (.mp 0)),(10,.v (.mp 1)),(11,.loc 1 0),(12,.v (.all 2)),(13,.i)],[zb,(cL [(.all 3),(.all 4),(.all 5)])],[.vh .i true De,.vh .i true De,.cells .i,.cells .bool,.cells (.pair .bool .bool),.cells ya],0,0⟩ ((p.1,(),(),(),e,()),((r7 p.2.2.1 (p.2.2.1.t7,())),((),(),(),()),()),(r5 p.t3 (p.t8,())))
 Kd:=⟨[1,3,7,10,11,12,13,14,45,46],[],[],[]⟩
 pe:=[(.exit 4,⟨[1,3,7,10,11,12,13],[],[],[]⟩)]
def Im:LD ((List (List Int))×Ga) ((List (Int×Pa))×(List (Int×Pa))×(List Int)×(List Bool)×(List (Bool×Bool))×(List za)) ((List (Int×Pa))×(List Int)×(List Bool)×(List (Bool×Bool))×(List za))where
 sk:=⟨[(1,.v (.lit (.slice .i))),(3,.loc 0 0),(7,.v (.mp 0)),(10,.v (.mp 1)),(11,.loc 1 0),(12,.v (.all 2))],[zb,(cL [(.all 3),(.all 4),(.all 5)])],[.vh .i true De,.vh .i true De,.cells .i,.cells .bool,.cells (.pair .bool .bool),.cells ya],0,0⟩
 p:=fun u=>(u.1.1,u.2.1.1.1,(q7 u.2.1.1.2))
 t:=fun u=>(r5 u.2.2 u.t7.1)
 n:=fun p t=>((p.1,(),(),(),()),((r7 p.2 (p.t8,())),((),(),(),()),()),(r5 t (t.t5,())))
 st:=fun Y p t ki ke=>(Ia (Dk.m (p.1,(nt (da p.1)),p.2,t)) ((-1),0,0)).bind fun e1=>
  cond (decide (e1<(0:Int)))
  (ke ((t.2.1,t.2.2.1,t.2.2.2.1,t.2.2.2.2.1,t.2.2.2.2.2)))
  (ask (decide (((da t.2.2.1)+(da ([e1]:List Int))) * 8<=70368744177664)&&decide (((da t.2.2.1)+(da ([e1]:List Int)))<9223372036854775808)) (cond (QB (k:=(.int .i64)) e1 t.1)
  (cond (QB (k:=(.int .i64)) e1 t.1)
  ((Fw ((Eu (k:=(.int .i64)) e1 vj t.1),t.2.2.2.1,t.2.2.2.2.1,t.2.2.2.2.2)).bind fun r2=>
  ki ((Yz (k:=(.int .i64)) e1 t.1),(Ix (k:=(.int .i64)) e1 (Eu (k:=(.int .i64)) e1 vj t.1) t.2.1),(t.2.2.1++([e1]:List Int)),r2.1,r2.2.1,r2.2.2))
  ((vt (t.2.2.2.1,t.2.2.2.2.1,t.2.2.2.2.2)).bind fun r3=>
  ki ((Yz (k:=(.int .i64)) e1 t.1),(Ix (k:=(.int .i64)) e1 (Eu (k:=(.int .i64)) e1 vj t.1) t.2.1),(t.2.2.1++([e1]:List Int)),r3.1,r3.2.1,r3.2.2)))
  (cond (QB (k:=(.int .i64)) e1 t.1)
  ((Fw ((Eu (k:=(.int .i64)) e1 vj t.1),t.2.2.2.1,t.2.2.2.2.1,t.2.2.2.2.2)).bind fun r4=>
  ki ((Yz (k:=(.int .i64)) e1 t.1),(Ix (k:=(.int .i64)) e1 ([],([],[])) t.2.1),(t.2.2.1++([e1]:List Int)),r4.1,r4.2.1,r4.2.2))
  ((vt (t.2.2.2.1,t.2.2.2.2.1,t.2.2.2.2.2)).bind fun r5=>
  ki ((Yz (k:=(.int .i64)) e1 t.1),(Ix (k:=(.int .i64)) e1 ([],([],[])) t.2.1),(t.2.2.1++([e1]:List Int)),r5.1,r5.2.1,r5.2.2)))))
 o:=fun Z p e K=>so K (.exit 2) ⟨[(3,.loc 0 0),(10,.v (.mp 0)),(11,.loc 1 0),(12,.v (.all 1))],[zb,(cL [(.all 2),(.all 3),(.all 4)])],[.vh .i true De,.cells .i,.cells .bool,.cells (.pair .bool .bool),.cells ya],0,0⟩ (((),(),()),((r7 p.2 (p.t8,())),((),(),(),()),()),(r4 e (e.t4,())))
 Kd:=⟨[1,3,7,10,11,12],[(12,(.own (.int .i64)))],[],[]⟩
 pe:=[(.exit 2,⟨[3,10,11,12],[],[],[]⟩)]
def Fm:LD (Int×Int×Ga×(List (Int×Pa))×(List Int)×Pa) (iR) (Y3)where
 sk:=⟨[(3,.loc 0 0),(10,.v (.mp 0)),(11,.loc 1 0),(12,.v (.all 1)),(18,.i),(19,.loc 2 0),(95,.v (.all 1)),(96,.i),(97,.i)],[zb,(cL [(.all 2),(.all 3),(.all 4)]),(cL [(.all 5),(.all 6),(.all 7)])],[.vh .i true De,.cells .i,.cells .bool,.cells (.pair .bool .bool),.cells ya,.cells .bool,.cells (.pair .bool .bool),.cells ya],0,0⟩
 p:=fun u=>(u.1.2.2.1,u.1.t4.1,(q8 u.2.1.1),u.2.2.1,u.t3.1,u.t4.1,(u.t5.1,u.t6.1))
 t:=fun u=>(u.1.t5.1,u.t7.1,u.t8.1,u.t9.1)
 n:=fun p t=>(((),(),p.1,(),p.2.1,t.1,()),((r7 p.2.2.1 (p.2.2.1.t7,())),((),(),(),()),((),(),(),()),()),(r4 p.t3 (p.t7,t.2.1,t.2.2.1,t.t3,())))
 st:=fun Y p t ki ke=>cond (decide (t.1<p.2.1))
  (ask (V.ja t.1 (da p.2.2.2.2.1)) (cond (!(decide (t.1=p.1)))
  (cond (QB (k:=(.int .i64)) (gx p.2.2.2.2.1 (fa t.1) (0:Int)) p.2.2.2.1)
  ((Fw ((Eu (k:=(.int .i64)) (gx p.2.2.2.2.1 (fa t.1) (0:Int)) vj p.2.2.2.1),t.2.1,t.2.2.1,t.2.2.2)).bind fun r1=>
  ki ((Ea (t.1+(1:Int))),r1.1,r1.2.1,r1.2.2))
  ((vt (t.2.1,t.2.2.1,t.2.2.2)).bind fun r2=>
  ki ((Ea (t.1+(1:Int))),r2.1,r2.2.1,r2.2.2)))
  (ki ((Ea (t.1+(1:Int))),t.2.1,t.2.2.1,t.2.2.2))))
  (ke ((t.2.1,t.2.2.1,t.2.2.2)))
 o:=fun Z p e K=>so K (.exit 8) ⟨[(3,.loc 0 0),(10,.v (.mp 0)),(11,.loc 1 0),(12,.v (.all 1)),(18,.i),(19,.loc 2 0)],[zb,(cL [(.all 2),(.all 3),(.all 4)]),(cL [(.all 5),(.all 6),(.all 7)])],[.vh .i true De,.cells .i,.cells .bool,.cells (.pair .bool .bool),.cells ya,.cells .bool,.cells (.pair .bool .bool),.cells ya],0,0⟩ (((),(),p.1,()),((r7 p.2.2.1 (p.2.2.1.t7,())),((),(),(),()),((),(),(),()),()),(r4 p.t3 (p.t7,e.1,e.2.1,e.2.2,())))
 Kd:=⟨[3,10,11,12,18,19,95,96,97],[],[],[]⟩
 pe:=[(.exit 8,⟨[3,10,11,12,18,19],[],[],[]⟩)]
def Gm:LD (Ga×(List (Int×Pa))×Pa) (Int×(List Int)) ((List Int))where
 sk:=⟨[(3,.loc 0 0),(10,.v (.mp 0)),(11,.loc 1 0),(12,.v (.all 1)),(18,.i)],[zb,(cL [(.all 2),(.all 3),(.all 4)])],[.vh .i true De,.cells .i,.cells .bool,.cells (.pair .bool .bool),.cells ya],0,0⟩
 p:=fun u=>((q8 u.2.1.1),u.2.2.1,u.t4.1,(u.t5.1,u.t6.1))
 t:=fun u=>(u.1.2.2.1,u.t3.1)
 n:=fun p t=>(((),(),t.1,()),((r7 p.1 (p.1.t7,())),((),(),(),()),()),p.2.1,t.2,p.2.2.1,p.t3.1,p.t4,())
 st:=fun Y p t ki ke=>cond (decide ((0:Int)<=t.1))
  ((Gw p.1).bind fun r1=>
  (Ia (Fm.m (t.1,(nt (da t.2)),p.1,p.2.1,t.2,p.2.2)) (0,r1.1,r1.2.1,r1.2.2)).bind fun e2=>
  (oC (p.2.2.1,p.2.2.2.1,p.2.2.2.2,e2.1,e2.2.1,e2.2.2)).bind fun r3=>
  cond r3
  ((IF (t.1,(Ea (t.1+(1:Int))),t.2)).bind fun r4=>
  ki ((Ea (t.1-(1:Int))),r4))
  (ki ((Ea (t.1-(1:Int))),t.2)))
  (ke (t.2))
 o:=fun Z p e K=>so K (.exit 6) ⟨[(12,.v (.all 0))],[],[.cells .i],0,0⟩ (((),()),(),e,())
 Kd:=⟨[3,10,11,12,18],[],[],[]⟩
 pe:=[(.exit 6,⟨[12],[],[],[]⟩)]
def LQ{X:Type}(a:Y31)(K:(List Int)->Option X):Option X:=
 (Ia (br.m (a.2,a.2.1,(nt (da a.2.1)),a.1)) (0,([]:List (Int×Pa)))).bind fun e1=>
 (Gw a.1).bind fun r2=>
 (Ia (Im.m (a.2.1,a.1)) (e1,([]:List (Int×Pa)),[],r2.1,r2.2.1,r2.2.2)).bind fun e3=>
 (Ia (Gm.m (a.1,e3.1,e3.2.2)) ((Ea ((nt (da e3.2.1))-(1:Int))),e3.2.1)).bind fun e4=>
 (JK e4).bind fun r5=>
 K r5
def qC:=fun a=>LQ a some
def X0:Spec:=I_.sp qC
noncomputable def TF:Env:=eE [] (mb [(37,B0),(14,UN),(44,dad),(23,(alt P0.tk O0 M0)),(24,Rad),(45,NZ),(46,MZ)]) (qL 3 br.q (qL 12 Dk.q (qL 10 Im.q (qL 28 Fm.q (qL 24 Gm.q qN)))))
theorem lU:LS C TF true [3,11,16,19] 122 (.loop (pc [1,1,0,1,0,0] Tryz.f21)):=fun hc=>
 lO hc br (by intros;simp only[br,LD.m,nn])
theorem PN:LS C TF true [3,11,16,19] 122 (.loop (pc [1,1,1,1,1,1,0,0,0,0,1,0,1,0,0] Tryz.f21)):=fun hc=>
 lO hc Dk (by intros;simp only[Dk,LD.m,nn])
theorem QN:LS C TF true [3,11,16,19] 122 (.loop (pc [1,1,1,1,1,1,0,0,0] Tryz.f21)):=fun hc=>
 lO hc Im (by intros;simp only[Im,LD.m,nn]) (hl:=(nc (by kernel_rfl) (Va (PN hc) Mb)))
theorem NN:LS C TF true [3,11,16,19] 122 (.loop (pc [1,1,1,1,1,1,1,0,1,0,0,1,0,0,1,0,1,0,0] Tryz.f21)):=fun hc=>
 lO hc Fm (by intros;simp only[Fm,LD.m,nn])
theorem ON:LS C TF true [3,11,16,19] 122 (.loop (pc [1,1,1,1,1,1,1,0,1,0,0] Tryz.f21)):=fun hc=>
 lO hc Gm (by intros;simp only[Gm,LD.m,nn]) (hl:=(nc (by kernel_rfl) (Va (NN hc) Mb)))
theorem Z0:OK (7) 21 (I_.sp qC):=
 fO (d:=6) (env:=TF) (Da (cc C0 (cc VN (cc ead (cA Q0 (cc N0 (cc Sad (cc cad (cc aad cn))))))))) (fn:=Tryz.f21) (mc:=@LQ) (by intros;simp only[qC,LQ,nn]) (Fa:=[3,11,16,19]) (sh:=(.lit (.int .i64))) (fz:=true) (hl:=fun hc=>(nc (by kernel_rfl) (Va (lU hc) (Va (QN hc) (Va (ON hc) Mb)))))
def J_:FS (Y40) (Bool)where
 sk:=⟨(cL [(.lit .i),(.lit .i)]),[],0⟩
 a:=fun u=>(u.1.1,u.1.2.1)
 o:=fun Z a r K=>kv K (.bool) [] 0 r ()
def cr:LD ((Y40)) (Int) ((Unit) ⊕ (Unit))where
 sk:=⟨[(0,.v (.lit .i)),(1,.v (.lit .i)),(5,.i)],[],[],0,0⟩
 p:=fun u=>(u.1.1,u.1.2.1)
 t:=fun u=>u.1.2.2.1
 n:=fun p t=>((p.1,p.2,t,()),(),())
 st:=fun Y p t ki ke=>cond (decide (t<(nt (da p.1))))
  (ask (V.ja t (da p.1)) (ask (V.ja t (da p.2)) (cond (!(decide ((gx p.1 (fa t) (0:Int))=(gx p.2 (fa t) (0:Int)))))
  (ke (.inl ()))
  (ki ((Ea (t+(1:Int))))))))
  (ke (.inr (())))
 o:=fun Z p e K=>Sum.elim (fun e=>so K (.ret) ⟨[(4,.v .bool)],[],[],0,0⟩ ((false,()),(),())) (fun e=>so K (.exit 0) ⟨[],[],[],0,0⟩ ((),(),())) e
 Kd:=⟨[0,1,5],[],[],[]⟩
 pe:=[(.ret,⟨[4],[],[],[]⟩),(.exit 0,⟨[],[],[],[]⟩)]
def MQ{X:Type}(a:Y40)(K:Bool->Option X):Option X:=
 cond (!(decide ((nt (da a.1))=(nt (da a.2)))))
 (K false)
 ((Ia (cr.m a) 0).bind fun e1=>
 Sum.elim (fun e2=>K false)
 (fun e3=>K true) e1)
def rC:=fun a=>MQ a some
def B1:Spec:=J_.sp rC
noncomputable def K_:Env:=eE [] (mb []) (qL 4 cr.q qN)
theorem mU:LS C K_ true [] 26 (.loop (pc [1,1,0,1,0,0] Tryz.f20)):=fun hc=>
 lO hc cr (by intros;simp only[cr,LD.m,nn])
theorem D1:OK (1) 20 (J_.sp rC):=
 fO (d:=0) (env:=K_) (Da cn) (fn:=Tryz.f20) (mc:=@MQ) (by intros;simp only[rC,MQ,nn]) (hl:=fun hc=>(nc (by kernel_rfl) (Va (mU hc) Mb)))
def J':FS (Int) (ByteArray)where
 sk:=⟨(.cons .i .nil),[],0⟩
 a:=fun u=>u.1.1
 o:=fun Z a r K=>kv K (.str) [] 0 r ()
def rZ{X:Type}(a:Int)(K:ByteArray->Option X):Option X:=
 (oI (a,10)).bind fun r1=>
 K r1
def XP:=fun a=>rZ a some
def Eac:Spec:=J'.sp XP
noncomputable def Oah:Env:=eE [] (mb [(103,WQ)]) qN
theorem Fac:OK (2) 68 (J'.sp XP):=
 fO (d:=1) (env:=Oah) (Da (cc X7 cn)) (fn:=Tryz.f68) (mc:=@rZ) (by intros;simp only[XP,rZ,nn])
def s_:FS (Int) (ByteArray)where
 sk:=⟨(.cons .i .nil),[],0⟩
 a:=fun u=>u.1.1
 o:=fun Z a r K=>kv K (.str) [] 0 r ()
def ZZ{X:Type}(a:Int)(K:ByteArray->Option X):Option X:=
 (XP a).bind fun r1=>
 K r1
def Sq:=fun a=>ZZ a some
def XZ:Spec:=s_.sp Sq
noncomputable def cai:Env:=eE [] (mb [(68,Eac)]) qN
theorem YZ:OK (3) 39 (s_.sp Sq):=
 fO (d:=2) (env:=cai) (Da (cc Fac cn)) (fn:=Tryz.f39) (mc:=@ZZ) (by intros;simp only[Sq,ZZ,nn])
def r_:FS (ByteArray×Int×Int) (ByteArray)where
 sk:=⟨W5,[],0⟩
 a:=fun u=>(u.1.1,u.1.2.1,u.1.2.2.1)
 o:=fun Z a r K=>kv K (.str) [] 0 r ()
def WZ{X:Type}(a:ByteArray×Int×Int)(K:ByteArray->Option X):Option X:=
 ask (decide (Ua a.1+Ua (str [32])<=9223372036854775807)) ((Sq a.2.1).bind fun r1=>
 ask (decide (Ua (a.1++(str [32]))+Ua r1<=9223372036854775807)) (ask (decide (Ua ((a.1++(str [32]))++r1)+Ua (str [32,111,102,32])<=9223372036854775807)) ((Sq a.2.2).bind fun r2=>
 ask (decide (Ua (((a.1++(str [32]))++r1)++(str [32,111,102,32]))+Ua r2<=9223372036854775807)) (ask (decide (Ua ((((a.1++(str [32]))++r1)++(str [32,111,102,32]))++r2)+Ua (str [10])<=9223372036854775807)) (K (((((a.1++(str [32]))++r1)++(str [32,111,102,32]))++r2)++(str [10])))))))
def MK:=fun a=>WZ a some
def iad:Spec:=r_.sp MK
noncomputable def bai:Env:=eE [] (mb [(39,XZ)]) qN
theorem jad:OK (4) 40 (r_.sp MK):=
 fO (d:=3) (env:=bai) (Da (cc YZ cn)) (fn:=Tryz.f40) (mc:=@WZ) (by intros;simp only[MK,WZ,nn])
def O_:FS (Y41) (ByteArray)where
 sk:=⟨(cL [(.agg zb),(.agg (cL [(.all 0),(.all 1),(.all 2)]))]),[.cells .bool,.cells (.pair .bool .bool),.cells ya],0⟩
 a:=fun u=>((q8 u.1.1),u.2.1,u.2.2.1,u.t3.1)
 o:=fun Z a r K=>kv K (.str) [.cells .bool,.cells (.pair .bool .bool),.cells ya] 0 r (a.2.1,a.2.2.1,a.t3,())
def gI:LD (Int×Int×Int×Int×(List Wa)×Int×Int×(Bool×Bool)×Ga×Wa×Pa×ByteArray) (Int×Int) (Int)where
 sk:=⟨[(2,.loc 0 0),(3,.loc 1 0),(5,.i),(6,.i),(7,.i),(8,.p 3 0),(9,.i),(10,.loc 2 0),(11,.i),(20,.v (.lit Md)),(21,.i),(22,.i),(31,.v (.agg (cL [.bool,.bool]))),(32,.i)],[zb,(cL [(.all 0),(.all 1),(.all 2)]),Kb],[.cells .bool,.cells (.pair .bool .bool),.cells ya,.Mm (.all 4),.Rp],0,3⟩
 p:=fun u=>(r3 u.1 (u.1.t4.1,(r3 u.1.t6 ((u.1.t9.1.1,u.1.t9.1.2.1),(q8 u.2.1.1),(q8 u.2.1.2.2.1),(q3 u.2.2),u.t6.1))))
 t:=fun u=>(u.1.t5.1,u.1.t10.1)
 n:=fun p t=>((r3 p ((),p.t3.1,t.1,(r3 p.t4 ((p.t7.1.1,p.t7.1.2,()),t.2,())))),((r7 p.t8.1 (p.t8.1.t7,())),((),(),(),()),(r7 p.t9.1 (p.t9.1.t7,())),()),p.t10.1.1,p.t10.1.2.1,p.t10.1.2.2,(),p.t11,())
 st:=fun Y p t ki ke=>cond (decide (t.2<(2:Int)))
  (cond (decide (t.2=(0:Int)))
  (cond p.2.2.2.2.2.2.2.1.1
  (ki ((Ea (t.1+(1:Int))),(Ea (t.2+(1:Int)))))
  (ki (t.1,(Ea (t.2+(1:Int))))))
  (cond (decide (t.2=(1:Int)))
  (cond p.2.2.2.2.2.2.2.1.2
  (ki ((Ea (t.1+(1:Int))),(Ea (t.2+(1:Int)))))
  (ki (t.1,(Ea (t.2+(1:Int))))))
  (none)))
  (ke (t.1))
 o:=fun Z p e K=>so K (.exit 2) ⟨[(2,.loc 0 0),(3,.loc 1 0),(5,.i),(6,.i),(7,.i),(8,.p 3 0),(9,.i),(10,.loc 2 0),(11,.i),(20,.v (.lit Md)),(21,.i),(22,.i)],[zb,(cL [(.all 0),(.all 1),(.all 2)]),Kb],[.cells .bool,.cells (.pair .bool .bool),.cells ya,.Mm (.all 4),.Rp],0,3⟩ ((r3 p ((),p.t3.1,e,(r3 p.t4 ()))),((r7 p.t8.1 (p.t8.1.t7,())),((),(),(),()),(r7 p.t9.1 (p.t9.1.t7,())),()),p.t10.1.1,p.t10.1.2.1,p.t10.1.2.2,(),p.t11,())
 Kd:=⟨[2,3,5,6,7,8,9,10,11,20,21,22,31,32],[],[],[]⟩
 pe:=[(.exit 2,⟨[2,3,5,6,7,8,9,10,11,20,21,22],[],[],[]⟩)]
def iI:LD ((List Wa)×Int×(Ga×Pa)) (Int×Int×Int×Int×ByteArray) (Int×Int×Int×ByteArray)where
 sk:=⟨[(2,.loc 0 0),(3,.loc 1 0),(5,.i),(6,.i),(7,.i),(8,.p 3 0),(20,.v (.lit Md)),(21,.i),(22,.i)],[zb,(cL [(.all 0),(.all 1),(.all 2)])],[.cells .bool,.cells (.pair .bool .bool),.cells ya,.Mm (.all 4),.Rp],0,3⟩
 p:=fun u=>(u.1.t4.1,u.1.t5.1,(q8 u.2.1.1),(q3 u.2.2))
 t:=fun u=>(r3 u.1 (u.1.t6.1,u.t6.1))
 n:=fun p t=>((r3 t ((),p.1,p.2.1,t.t3.1,())),((r7 p.2.2.1 (p.2.2.1.t7,())),((),(),(),()),()),p.t3.1,p.t4.1,p.t5,(),t.t4,())
 st:=fun Y p t ki ke=>cond (decide (t.2.2.2.1<p.2.1))
  (ask (V.ja t.2.2.2.1 (da p.1)) (ask (V.ja t.2.2.2.1 (da p.2.2.2.2.1)) ((Ia (gI.m (t.1,t.2.1,t.2.2.1,t.2.2.2.1,p.1,p.2.1,t.2.2.2.1,(gx p.2.2.2.2.1 (fa t.2.2.2.1) (false,false)),p.2.2.1,(gx p.1 (fa t.2.2.2.1) Ta),p.2.2.2,t.2.2.2.2)) (0,0)).bind fun e1=>
  cond (decide ((gx p.1 (fa t.2.2.2.1) Ta).1=(15:Int)))
  (ask (V.ja t.2.2.2.1 (da p.2.2.2.1)) (cond (!(gx p.2.2.2.1 (fa t.2.2.2.1) false))
  ((Sq t.2.2.2.1).bind fun r2=>
  ask (decide (Ua (str [110,111,32])+Ua r2<=9223372036854775807)) (ask (decide (Ua ((str [110,111,32])++r2)+Ua (str [10])<=9223372036854775807)) ((wz ((((str [110,111,32])++r2)++(str [10])),t.2.2.2.2)).bind fun r3=>
  ki (t.1,(Ea (t.2.1+e1)),(Ea (t.2.2.1+(2:Int))),(Ea (t.2.2.2.1+(1:Int))),r3.2))))
  (ki ((Ea (t.1+(1:Int))),(Ea (t.2.1+e1)),(Ea (t.2.2.1+(2:Int))),(Ea (t.2.2.2.1+(1:Int))),t.2.2.2.2))))
  (cond (decide ((gx p.1 (fa t.2.2.2.1) Ta).1=(21:Int)))
  (ask (V.ja t.2.2.2.1 (da p.2.2.2.1)) (cond (!(gx p.2.2.2.1 (fa t.2.2.2.1) false))
  ((Sq t.2.2.2.1).bind fun r4=>
  ask (decide (Ua (str [110,111,32])+Ua r4<=9223372036854775807)) (ask (decide (Ua ((str [110,111,32])++r4)+Ua (str [10])<=9223372036854775807)) ((wz ((((str [110,111,32])++r4)++(str [10])),t.2.2.2.2)).bind fun r5=>
  ki (t.1,(Ea (t.2.1+e1)),t.2.2.1,(Ea (t.2.2.2.1+(1:Int))),r5.2))))
  (ki ((Ea (t.1+(1:Int))),(Ea (t.2.1+e1)),t.2.2.1,(Ea (t.2.2.2.1+(1:Int))),t.2.2.2.2))))
  (ask (V.ja t.2.2.2.1 (da p.2.2.2.1)) (cond (!(gx p.2.2.2.1 (fa t.2.2.2.1) false))
  ((Sq t.2.2.2.1).bind fun r6=>
  ask (decide (Ua (str [110,111,32])+Ua r6<=9223372036854775807)) (ask (decide (Ua ((str [110,111,32])++r6)+Ua (str [10])<=9223372036854775807)) ((wz ((((str [110,111,32])++r6)++(str [10])),t.2.2.2.2)).bind fun r7=>
  ki (t.1,(Ea (t.2.1+e1)),(Ea (t.2.2.1+(1:Int))),(Ea (t.2.2.2.1+(1:Int))),r7.2))))
  (ki ((Ea (t.1+(1:Int))),(Ea (t.2.1+e1)),(Ea (t.2.2.1+(1:Int))),(Ea (t.2.2.2.1+(1:Int))),t.2.2.2.2))))))))
  (ke ((t.1,t.2.1,t.2.2.1,t.2.2.2.2)))
 o:=fun Z p e K=>so K (.exit 0) ⟨[(2,.loc 0 0),(3,.loc 1 0),(5,.i),(6,.i),(7,.i),(8,.p 3 0)],[zb,(cL [(.all 0),(.all 1),(.all 2)])],[.cells .bool,.cells (.pair .bool .bool),.cells ya,.Mm (.all 4),.Rp],0,3⟩ ((r3 e ((),())),((r7 p.2.2.1 (p.2.2.1.t7,())),((),(),(),()),()),p.t3.1,p.t4.1,p.t5,(),e.t3,())
 Kd:=⟨[2,3,5,6,7,8,20,21,22],[],[],[]⟩
 pe:=[(.exit 0,⟨[2,3,5,6,7,8],[],[],[]⟩)]
def HA:LD (Int×Int×Int×(List Wa)×Int×(Ga×Pa)) (Int×ByteArray) (ByteArray)where
 sk:=⟨[(2,.loc 0 0),(3,.loc 1 0),(5,.i),(6,.i),(7,.i),(8,.p 3 0),(67,.v (.lit Md)),(68,.i),(69,.i)],[zb,(cL [(.all 0),(.all 1),(.all 2)])],[.cells .bool,.cells (.pair .bool .bool),.cells ya,.Mm (.all 4),.Rp],0,3⟩
 p:=fun u=>(r3 u.1 (u.1.t4.1,u.1.t5.1,(q8 u.2.1.1),(q3 u.2.2)))
 t:=fun u=>(u.1.t6.1,u.t6.1)
 n:=fun p t=>((r3 p ((),p.t3.1,p.t4.1,t.1,())),((r7 p.t5.1 (p.t5.1.t7,())),((),(),(),()),()),p.t6.1,p.t7.1,p.t8,(),t.2,())
 st:=fun Y p t ki ke=>cond (decide (t.1<p.2.2.2.2.1))
  (ask (V.ja t.1 (da p.2.2.2.1)) (ask (V.ja t.1 (da p.2.2.2.2.2.2.2.1)) (cond (decide ((gx p.2.2.2.1 (fa t.1) Ta).1=(15:Int)))
  (ask (V.ja t.1 (da p.2.2.2.2.2.2.1)) (cond (gx p.2.2.2.2.2.2.1 (fa t.1) false)
  (cond (!((gx p.2.2.2.2.2.2.2.1 (fa t.1) (false,false)).1==(gx p.2.2.2.2.2.2.2.1 (fa t.1) (false,false)).2))
  (cond (gx p.2.2.2.2.2.2.2.1 (fa t.1) (false,false)).2
  ((Sq t.1).bind fun r1=>
  ask (decide (Ua (str [111,110,101,32,119,97,121,32])+Ua r1<=9223372036854775807)) (ask (decide (Ua ((str [111,110,101,32,119,97,121,32])++r1)+Ua (str [32])<=9223372036854775807)) (ask (decide (Ua (((str [111,110,101,32,119,97,121,32])++r1)++(str [32]))+Ua (str [49])<=9223372036854775807)) (ask (decide (Ua ((((str [111,110,101,32,119,97,121,32])++r1)++(str [32]))++(str [49]))+Ua (str [10])<=9223372036854775807)) ((wz ((((((str [111,110,101,32,119,97,121,32])++r1)++(str [32]))++(str [49]))++(str [10])),t.2)).bind fun r2=>
  ki ((Ea (t.1+(1:Int))),r2.2))))))
  ((Sq t.1).bind fun r3=>
  ask (decide (Ua (str [111,110,101,32,119,97,121,32])+Ua r3<=9223372036854775807)) (ask (decide (Ua ((str [111,110,101,32,119,97,121,32])++r3)+Ua (str [32])<=9223372036854775807)) (ask (decide (Ua (((str [111,110,101,32,119,97,121,32])++r3)++(str [32]))+Ua (str [48])<=9223372036854775807)) (ask (decide (Ua ((((str [111,110,101,32,119,97,121,32])++r3)++(str [32]))++(str [48]))+Ua (str [10])<=9223372036854775807)) ((wz ((((((str [111,110,101,32,119,97,121,32])++r3)++(str [32]))++(str [48]))++(str [10])),t.2)).bind fun r4=>
  ki ((Ea (t.1+(1:Int))),r4.2)))))))
  (ki ((Ea (t.1+(1:Int))),t.2)))
  (ki ((Ea (t.1+(1:Int))),t.2))))
  (ki ((Ea (t.1+(1:Int))),t.2)))))
  (ke (t.2))
 o:=fun Z p e K=>so K (.exit 5) ⟨[(2,.loc 0 0),(3,.loc 1 0),(5,.i),(6,.i),(7,.i),(8,.p 3 0)],[zb,(cL [(.all 0),(.all 1),(.all 2)])],[.cells .bool,.cells (.pair .bool .bool),.cells ya,.Mm (.all 4),.Rp],0,3⟩ ((r3 p ((),())),((r7 p.t5.1 (p.t5.1.t7,())),((),(),(),()),()),p.t6.1,p.t7.1,p.t8,(),e,())
 Kd:=⟨[2,3,5,6,7,8,67,68,69],[],[],[]⟩
 pe:=[(.exit 5,⟨[2,3,5,6,7,8],[],[],[]⟩)]
def I1{X:Type}(a:Y41)(K:ByteArray->Option X):Option X:=
 (Ia (iI.m (a.1.1,(nt (da a.1.1)),a)) (0,0,0,0,ByteArray.empty)).bind fun e1=>
 (Ia (HA.m (e1.1,e1.2.1,e1.2.2.1,a.1.1,(nt (da a.1.1)),a)) (0,e1.2.2.2)).bind fun e2=>
 (MK ((str [112,108,97,99,101,115]),e1.1,(nt (da a.1.1)))).bind fun r3=>
 (MK ((str [119,97,121,115]),e1.2.1,e1.2.2.1)).bind fun r4=>
 ask (decide (Ua r3+Ua r4<=9223372036854775807)) (ask (decide (Ua (r3++r4)+Ua (str [101,114,114,111,114,115,32])<=9223372036854775807)) ((Sq (nt (da a.2.2.2))).bind fun r5=>
 ask (decide (Ua ((r3++r4)++(str [101,114,114,111,114,115,32]))+Ua r5<=9223372036854775807)) (ask (decide (Ua (((r3++r4)++(str [101,114,114,111,114,115,32]))++r5)+Ua (str [10])<=9223372036854775807)) ((q_ e2).bind fun r6=>
 ask (decide (Ua ((((r3++r4)++(str [101,114,114,111,114,115,32]))++r5)++(str [10]))+Ua r6<=9223372036854775807)) (K (((((r3++r4)++(str [101,114,114,111,114,115,32]))++r5)++(str [10]))++r6))))))
def OQ:=fun a=>I1 a some
def cae:Spec:=O_.sp OQ
noncomputable def RQ:Env:=eE [] (mb [(39,XZ),(38,u0),(40,iad),(41,VZ)]) (qL 8 gI.q (qL 4 iI.q (qL 24 HA.q qN)))
theorem pU:LS C RQ true [2,3,10,15,16] 127 (.loop (pc [1,1,1,0,1,0,0,1,1,0,0,1,1,0,1,0,0] Tryz.f16)):=fun hc=>
 lO hc gI (by intros;simp only[gI,LD.m,nn])
theorem qU:LS C RQ true [2,3,10,15,16] 127 (.loop (pc [1,1,1,0,1,0,0] Tryz.f16)):=fun hc=>
 lO hc iI (by intros;simp only[iI,LD.m,nn]) (hl:=(nc (by kernel_rfl) (Va (pU hc) Mb)))
theorem SN:LS C RQ true [2,3,10,15,16] 127 (.loop (pc [1,1,1,1,0,1,0,0] Tryz.f16)):=fun hc=>
 lO hc HA (by intros;simp only[HA,LD.m,nn])
theorem dae:OK (5) 16 (O_.sp OQ):=
 fO (d:=4) (env:=RQ) (Da (cc YZ (cc kad (cc jad (cc gad cn))))) (fn:=Tryz.f16) (mc:=@I1) (by intros;simp only[OQ,I1,nn]) (Fa:=[2,3,10,15,16]) (hl:=fun hc=>(nc (by kernel_rfl) (Va (qU hc) (Va (SN hc) Mb))))
def yah:FS (Unit) (Bool)where
 sk:=⟨.nil,[],0⟩
 a:=fun u=>()
 o:=fun Z a r K=>kv K (.bool) [] 0 r ()
def dac{X:Type}(a:Unit)(K:Bool->Option X):Option X:=
 ask (decide (0<=(0:Int))&&decide ((0:Int)<=(1:Int))&&decide ((1:Int)<=(nt (da ([[],([1]:List Int),([3]:List Int)]:List (List Int)))))) ((zz ((([(17,(0,(0,(0,(0,(0,(1,(-1)))))))),(12,(1,(0,(0,(0,(0,(2,(-1)))))))),(13,(0,(1,(0,(0,(0,(3,(-1)))))))),(1,(2,(0,(0,(3,(0,(4,(-1)))))))),(15,(0,(0,(2,(15,(0,(6,5))))))),(21,(0,(0,(0,(0,(1,((-1),(-1)))))))),(18,(0,(0,(0,(0,(0,(0,(-1))))))))]:List Wa),(0,(3,(0,(([((str [115]),(1,((-5),5)))]:List Bb),(([((str [120]),(1,0))]:List Xb),([],([(0,0),(0,32)]:List za)))))))),(List.drop 0 (List.take 1 ([[],([1]:List Int),([3]:List Int)]:List (List Int)))),9)).bind fun r1=>
 (tC (r1.1,r1.2.1,r1.2.2)).bind fun r2=>
 cond (decide (r2=(3:Int)))
 (ask (decide (0<=(1:Int))&&decide ((1:Int)<=(2:Int))&&decide ((2:Int)<=(nt (da ([[],([1]:List Int),([3]:List Int)]:List (List Int)))))) ((zz ((([(17,(0,(0,(0,(0,(0,(1,(-1)))))))),(12,(1,(0,(0,(0,(0,(2,(-1)))))))),(13,(0,(1,(0,(0,(0,(3,(-1)))))))),(1,(2,(0,(0,(3,(0,(4,(-1)))))))),(15,(0,(0,(2,(15,(0,(6,5))))))),(21,(0,(0,(0,(0,(1,((-1),(-1)))))))),(18,(0,(0,(0,(0,(0,(0,(-1))))))))]:List Wa),(0,(3,(0,(([((str [115]),(1,((-5),5)))]:List Bb),(([((str [120]),(1,0))]:List Xb),([],([(0,0),(0,32)]:List za)))))))),(List.drop 1 (List.take 2 ([[],([1]:List Int),([3]:List Int)]:List (List Int)))),9)).bind fun r3=>
 (tC (r3.1,r3.2.1,r3.2.2)).bind fun r4=>
 cond (decide (r4=(12:Int)))
 (ask (decide (0<=(2:Int))&&decide ((2:Int)<=(nt (da ([[],([1]:List Int),([3]:List Int)]:List (List Int)))))) ((zz ((([(17,(0,(0,(0,(0,(0,(1,(-1)))))))),(12,(1,(0,(0,(0,(0,(2,(-1)))))))),(13,(0,(1,(0,(0,(0,(3,(-1)))))))),(1,(2,(0,(0,(3,(0,(4,(-1)))))))),(15,(0,(0,(2,(15,(0,(6,5))))))),(21,(0,(0,(0,(0,(1,((-1),(-1)))))))),(18,(0,(0,(0,(0,(0,(0,(-1))))))))]:List Wa),(0,(3,(0,(([((str [115]),(1,((-5),5)))]:List Bb),(([((str [120]),(1,0))]:List Xb),([],([(0,0),(0,32)]:List za)))))))),(List.drop 2 ([[],([1]:List Int),([3]:List Int)]:List (List Int))),9)).bind fun r5=>
 (tC (r5.1,r5.2.1,r5.2.2)).bind fun r6=>
 cond (decide (r6=(12:Int)))
 ((zz ((([(17,(0,(0,(0,(0,(0,(1,(-1)))))))),(12,(1,(0,(0,(0,(0,(2,(-1)))))))),(13,(0,(1,(0,(0,(0,(3,(-1)))))))),(1,(2,(0,(0,(3,(0,(4,(-1)))))))),(15,(0,(0,(2,(15,(0,(6,5))))))),(21,(0,(0,(0,(0,(1,((-1),(-1)))))))),(18,(0,(0,(0,(0,(0,(0,(-1))))))))]:List Wa),(0,(3,(0,(([((str [115]),(1,((-5),5)))]:List Bb),(([((str [120]),(1,0))]:List Xb),([],([(0,0),(0,32)]:List za)))))))),([[],([1]:List Int),([3]:List Int)]:List (List Int)),9)).bind fun r7=>
 (tC (r7.1,r7.2.1,r7.2.2)).bind fun r8=>
 cond (decide (r8=(15:Int)))
 ((qC ((([(17,(0,(0,(0,(0,(0,(1,(-1)))))))),(12,(1,(0,(0,(0,(0,(2,(-1)))))))),(13,(0,(1,(0,(0,(0,(3,(-1)))))))),(1,(2,(0,(0,(3,(0,(4,(-1)))))))),(15,(0,(0,(2,(15,(0,(6,5))))))),(21,(0,(0,(0,(0,(1,((-1),(-1)))))))),(18,(0,(0,(0,(0,(0,(0,(-1))))))))]:List Wa),(0,(3,(0,(([((str [115]),(1,((-5),5)))]:List Bb),(([((str [120]),(1,0))]:List Xb),([],([(0,0),(0,32)]:List za)))))))),([[],([1]:List Int),([3]:List Int)]:List (List Int)),9)).bind fun r9=>
 (rC (r9,([1,2]:List Int))).bind fun Ei=>
 cond Ei
 (ask (decide (0<=(1:Int))&&decide ((1:Int)<=(2:Int))&&decide ((2:Int)<=(nt (da ([[],([1]:List Int),([3]:List Int)]:List (List Int)))))) ((zz ((([(17,(0,(0,(0,(0,(0,(1,(-1)))))))),(12,(1,(0,(0,(0,(0,(2,(-1)))))))),(13,(0,(1,(0,(0,(0,(3,(-1)))))))),(1,(2,(0,(0,(3,(0,(4,(-1)))))))),(15,(0,(0,(2,(15,(0,(6,5))))))),(21,(0,(0,(0,(0,(1,((-1),(-1)))))))),(18,(0,(0,(0,(0,(0,(0,(-1))))))))]:List Wa),(0,(3,(0,(([((str [115]),(1,((-5),5)))]:List Bb),(([((str [120]),(1,0))]:List Xb),([],([(0,0),(0,32)]:List za)))))))),(List.drop 1 (List.take 2 ([[],([1]:List Int),([3]:List Int)]:List (List Int)))),9)).bind fun Ig=>
 (OQ ((([(17,(0,(0,(0,(0,(0,(1,(-1)))))))),(12,(1,(0,(0,(0,(0,(2,(-1)))))))),(13,(0,(1,(0,(0,(0,(3,(-1)))))))),(1,(2,(0,(0,(3,(0,(4,(-1)))))))),(15,(0,(0,(2,(15,(0,(6,5))))))),(21,(0,(0,(0,(0,(1,((-1),(-1)))))))),(18,(0,(0,(0,(0,(0,(0,(-1))))))))]:List Wa),(0,(3,(0,(([((str [115]),(1,((-5),5)))]:List Bb),(([((str [120]),(1,0))]:List Xb),([],([(0,0),(0,32)]:List za)))))))),Ig.1,Ig.2.1,Ig.2.2)).bind fun T8=>
 K (T8.toList==(str [112,108,97,99,101,115,32,54,32,111,102,32,55,10,119,97,121,115,32,54,32,111,102,32,55,10,101,114,114,111,114,115,32,48,10,110,111,32,53,10,111,110,101,32,119,97,121,32,52,32,48,10]).toList)))
 (K false))
 (K false))
 (K false)))
 (K false)))
 (K false))
def IS:=fun a=>dac a some
def xah:Spec:=yah.sp IS
noncomputable def ham:Env:=eE [] (mb [(34,sad),(12,hae),(18,aae),(21,X0),(20,B1),(16,cae)]) qN
theorem zah:OK (8) 9 (yah.sp IS):=
 fO (d:=7) (env:=ham) (Da (cc tad (cc iae (cc bae (cc Z0 (cc D1 (cc dae cn))))))) (fn:=Tryz.f9) (mc:=@dac) (by intros;simp only[IS,dac,nn]) (Fa:=[1,2000004,2000005,2000006,2000040])
end
end Go.U
end
