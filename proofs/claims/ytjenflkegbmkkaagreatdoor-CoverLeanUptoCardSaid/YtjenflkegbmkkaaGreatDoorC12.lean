/- The functions of the program as Lean functions, and that the evaluator says so. -/
import Derived.Test.YtjenflkegbmkkaaGreatDoorC11
set_option linter.unusedVariables false
set_option linter.unusedSimpArgs false
set_option linter.unusedSectionVars false
open Int renaming toNat→fa
open List renaming length→da,set→Oa,replicate→Ba
section
set_option maxRecDepth 100000
namespace Go.U
open Go Go.Proofs
noncomputable section
variable {C:V.Callee}
def L_:FS (Y3) (Int)where
 sk:=⟨(.cons (.agg (cL [(.all 0),(.all 1),(.all 2)])) .nil),[.cells .bool,.cells (.pair .bool .bool),.cells ya],0⟩
 a:=fun u=>(u.2.1,u.2.2.1,u.t3.1)
 o:=fun Z a r K=>kv K .i [.cells .bool,.cells (.pair .bool .bool),.cells ya] 0 r (a.1,a.2.1,a.2.2,())
def dr:LD (Pa) (Int×Int) (Int)where
 sk:=⟨[(1,.loc 0 0),(3,.i),(4,.i)],[(cL [(.all 0),(.all 1),(.all 2)])],[.cells .bool,.cells (.pair .bool .bool),.cells ya],0,3⟩
 p:=fun u=>(q3 u.2.2)
 t:=fun u=>(u.1.1,u.1.2.1)
 n:=fun p t=>((t.1,t.2,()),(((),(),(),()),()),p.1,p.2.1,p.2.2,())
 st:=fun Y p t ki ke=>cond (decide (t.2<(nt (da p.1))))
  (ask (V.ja t.2 (da p.1)) (cond (gx p.1 (fa t.2) false)
  (ask (V.ja t.2 (da p.2.1)) (cond (gx p.2.1 (fa t.2) (false,false)).1
  (ask (V.ja t.2 (da p.2.1)) (cond (gx p.2.1 (fa t.2) (false,false)).2
  (ki ((Ea ((Ea ((Ea (t.1+(1:Int)))+(1:Int)))+(1:Int))),(Ea (t.2+(1:Int)))))
  (ki ((Ea ((Ea (t.1+(1:Int)))+(1:Int))),(Ea (t.2+(1:Int)))))))
  (ask (V.ja t.2 (da p.2.1)) (cond (gx p.2.1 (fa t.2) (false,false)).2
  (ki ((Ea ((Ea (t.1+(1:Int)))+(1:Int))),(Ea (t.2+(1:Int)))))
  (ki ((Ea (t.1+(1:Int))),(Ea (t.2+(1:Int)))))))))
  (ask (V.ja t.2 (da p.2.1)) (cond (gx p.2.1 (fa t.2) (false,false)).1
  (ask (V.ja t.2 (da p.2.1)) (cond (gx p.2.1 (fa t.2) (false,false)).2
  (ki ((Ea ((Ea (t.1+(1:Int)))+(1:Int))),(Ea (t.2+(1:Int)))))
  (ki ((Ea (t.1+(1:Int))),(Ea (t.2+(1:Int)))))))
  (ask (V.ja t.2 (da p.2.1)) (cond (gx p.2.1 (fa t.2) (false,false)).2
  (ki ((Ea (t.1+(1:Int))),(Ea (t.2+(1:Int)))))
  (ki (t.1,(Ea (t.2+(1:Int)))))))))))
  (ke (t.1))
 o:=fun Z p e K=>so K (.exit 0) ⟨[(3,.i)],[],[.cells .bool,.cells (.pair .bool .bool),.cells ya],0,3⟩ ((e,()),(),p.1,p.2.1,p.2.2,())
 Kd:=⟨[1,3,4],[],[],[]⟩
 pe:=[(.exit 0,⟨[3],[],[],[]⟩)]
def NQ{X:Type}(a:Y3)(K:Int->Option X):Option X:=
 (Ia (dr.m a) ((nt (da a.2.2)),0)).bind fun e1=>
 K e1
def sC:=fun a=>NQ a some
def Yad:Spec:=L_.sp sC
noncomputable def M_:Env:=eE [] (mb []) (qL 3 dr.q qN)
theorem nU:LS C M_ true [1] 39 (.loop (pc [1,1,0,1,0,0] Tryz.f19)):=fun hc=>
 lO hc dr (by intros;simp only[dr,LD.m,nn])
theorem Zad:OK (1) 19 (L_.sp sC):=
 fO (d:=0) (env:=M_) (Da cn) (fn:=Tryz.f19) (mc:=@NQ) (by intros;simp only[sC,NQ,nn]) (Fa:=[1]) (hl:=fun hc=>(nc (by kernel_rfl) (Va (nU hc) Mb)))
def H_:FS (Y31) ((List Int))where
 sk:=⟨(cL [(.agg zb),(.lit (.slice .i)),.i]),[],0⟩
 a:=fun u=>((q8 u.1.1),u.1.2.1,u.1.2.2.1)
 o:=fun Z a r K=>kv K (.lit .i) [] 0 r ()
def Zq:LD ((Y39)×Ga) (Int×(List Pa)) ((List Pa))where
 sk:=⟨[(1,.v (.lit (.slice .i))),(2,.i),(3,.loc 0 0),(7,.v (.all 0)),(8,.i)],[zb],[.cells De],0,0⟩
 p:=fun u=>((u.1.1,u.1.2.1),u.2.1.1.1,(q7 u.2.1.1.2))
 t:=fun u=>(u.1.t3.1,u.2.2.1)
 n:=fun p t=>((p.1.1,p.1.2,(),t.1,()),((r7 p.2 (p.t8,())),()),t.2,())
 st:=fun Y p t ki ke=>cond (decide (t.1<(nt (da p.1.1))))
  (ask (V.ja t.1 (da p.1.1)) ((JF (p.2,(gx p.1.1 (fa t.1) []),p.1.2)).bind fun r1=>
  ask (decide (((da t.2)+(da ([r1]:List Pa))) * 72<=70368744177664)&&decide (((da t.2)+(da ([r1]:List Pa)))<9223372036854775808)) (ki ((Ea (t.1+(1:Int))),(t.2++([r1]:List Pa))))))
  (ke (t.2))
 o:=fun Z p e K=>so K (.exit 0) ⟨[(3,.loc 0 0),(7,.v (.all 0))],[zb],[.cells De],0,0⟩ (((),()),((r7 p.2 (p.t8,())),()),e,())
 Kd:=⟨[1,2,3,7,8],[(7,(.own De))],[],[]⟩
 pe:=[(.exit 0,⟨[3,7],[],[],[]⟩)]
def Em:LD ((Ga×(List Pa))×((List Int)×Pa)) (Int×Int×Int) (Int)where
 sk:=⟨[(3,.loc 0 0),(7,.v (.all 0)),(9,.v (.all 1)),(10,.loc 1 0),(11,.i),(12,.i),(13,.i)],[zb,(cL [(.all 2),(.all 3),(.all 4)])],[.cells De,.cells .i,.cells .bool,.cells (.pair .bool .bool),.cells ya],0,0⟩
 p:=fun u=>(((q8 u.2.1.1),u.2.2.1),u.t3.1,(q3 u.t4))
 t:=fun u=>(u.1.2.2.1,u.1.t3.1,u.1.t4.1)
 n:=fun p t=>(((),(),t.1,t.2.1,t.2.2,()),((r7 p.1.1 (p.1.1.t7,())),((),(),(),()),()),p.1.2,(r3 p.2 (p.t4,())))
 st:=fun Y p t ki ke=>cond (decide (t.2.2<(nt (da p.1.2))))
  (ask (V.ja t.2.2 (da p.1.2)) ((xz ((gx p.1.2 (fa t.2.2) vj),p.2.2.1,p.2.2.2.1,p.2.2.2.2)).bind fun r1=>
  (sC (r1.1,r1.2.1,r1.2.2)).bind fun r2=>
  cond (decide (t.2.1<r2))
  (ki (t.2.2,r2,(Ea (t.2.2+(1:Int)))))
  (ki (t.1,t.2.1,(Ea (t.2.2+(1:Int)))))))
  (ke (t.1))
 o:=fun Z p e K=>so K (.exit 4) ⟨[(3,.loc 0 0),(7,.v (.all 0)),(9,.v (.all 1)),(10,.loc 1 0),(11,.i)],[zb,(cL [(.all 2),(.all 3),(.all 4)])],[.cells De,.cells .i,.cells .bool,.cells (.pair .bool .bool),.cells ya],0,0⟩ (((),(),e,()),((r7 p.1.1 (p.1.1.t7,())),((),(),(),()),()),p.1.2,(r3 p.2 (p.t4,())))
 Kd:=⟨[3,7,9,10,11,12,13],[],[],[]⟩
 pe:=[(.exit 4,⟨[3,7,9,10,11],[],[],[]⟩)]
def Yq:LD (Ga×(List Pa)) (Y55) (Y55)where
 sk:=⟨[(3,.loc 0 0),(7,.v (.all 0)),(9,.v (.all 1)),(10,.loc 1 0)],[zb,(cL [(.all 2),(.all 3),(.all 4)])],[.cells De,.cells .i,.cells .bool,.cells (.pair .bool .bool),.cells ya],0,0⟩
 p:=fun u=>((q8 u.2.1.1),u.2.2.1)
 t:=fun u=>(r3 u.t3 u.t6.1)
 n:=fun p t=>(((),(),()),((r7 p.1 (p.1.t7,())),((),(),(),()),()),p.2,(r3 t (t.t3,())))
 st:=fun Y p t ki ke=>(sC (t.2.1,t.2.2.1,t.2.2.2)).bind fun r1=>
  (Ia (Em.m (p,t)) ((-1),r1,0)).bind fun e2=>
  cond (decide (e2<(0:Int)))
  (ke ((t.1,t.2.1,t.2.2.1,t.2.2.2)))
  (ask (decide (((da t.1)+(da ([e2]:List Int))) * 8<=70368744177664)&&decide (((da t.1)+(da ([e2]:List Int)))<9223372036854775808)) (ask (V.ja e2 (da p.2)) ((xz ((gx p.2 (fa e2) vj),t.2.1,t.2.2.1,t.2.2.2)).bind fun r3=>
  ki ((t.1++([e2]:List Int)),r3.1,r3.2.1,r3.2.2))))
 o:=fun Z p e K=>so K (.exit 2) ⟨[(3,.loc 0 0),(7,.v (.all 0)),(9,.v (.all 1)),(10,.loc 1 0)],[zb,(cL [(.all 2),(.all 3),(.all 4)])],[.cells De,.cells .i,.cells .bool,.cells (.pair .bool .bool),.cells ya],0,0⟩ (((),(),()),((r7 p.1 (p.1.t7,())),((),(),(),()),()),p.2,(r3 e (e.t3,())))
 Kd:=⟨[3,7,9,10],[(9,(.own (.int .i64)))],[],[]⟩
 pe:=[(.exit 2,⟨[3,7,9,10],[],[],[]⟩)]
def Dm:LD (Y56) (Int×(List Bool)) ((List Bool))where
 sk:=⟨[(3,.loc 0 0),(7,.v (.all 0)),(9,.v (.all 1)),(10,.loc 1 0),(15,.v (.all 2)),(16,.i)],[zb,(cL [(.all 3),(.all 4),(.all 5)])],[.cells De,.cells .i,.cells .bool,.cells .bool,.cells (.pair .bool .bool),.cells ya],0,0⟩
 p:=fun u=>((q8 u.2.1.1),u.2.2.1,u.t3.1,(q3 u.t5))
 t:=fun u=>(u.1.t3.1,u.t4.1)
 n:=fun p t=>(((),(),(),t.1,()),((r7 p.1 (p.1.t7,())),((),(),(),()),()),p.2.1,p.2.2.1,t.2,p.t3.1,p.t4.1,p.t5,())
 st:=fun Y p t ki ke=>cond (decide (t.1<(nt (da p.2.2.1))))
  (ask (V.ja t.1 (da p.2.2.1)) (ask (V.ja (gx p.2.2.1 (fa t.1) (0:Int)) (da t.2)) (ki ((Ea (t.1+(1:Int))),(Oa t.2 (fa (gx p.2.2.1 (fa t.1) (0:Int))) true)))))
  (ke (t.2))
 o:=fun Z p e K=>so K (.exit 6) ⟨[(3,.loc 0 0),(7,.v (.all 0)),(9,.v (.all 1)),(10,.loc 1 0),(15,.v (.all 2))],[zb,(cL [(.all 3),(.all 4),(.all 5)])],[.cells De,.cells .i,.cells .bool,.cells .bool,.cells (.pair .bool .bool),.cells ya],0,0⟩ (((),(),(),()),((r7 p.1 (p.1.t7,())),((),(),(),()),()),p.2.1,p.2.2.1,e,p.t3.1,p.t4.1,p.t5,())
 Kd:=⟨[3,7,9,10,15,16],[],[],[]⟩
 pe:=[(.exit 6,⟨[3,7,9,10,15],[],[],[]⟩)]
def Bm:LD (Int×Ga×(List Pa)×(List Int)×(List Bool)×Pa) (iR) (Y3)where
 sk:=⟨[(3,.loc 0 0),(7,.v (.all 0)),(9,.v (.all 1)),(10,.loc 1 0),(15,.v (.all 2)),(17,.i),(18,.loc 2 0),(19,.i)],[zb,(cL [(.all 3),(.all 4),(.all 5)]),(cL [(.all 6),(.all 7),(.all 8)])],[.cells De,.cells .i,.cells .bool,.cells .bool,.cells (.pair .bool .bool),.cells ya,.cells .bool,.cells (.pair .bool .bool),.cells ya],0,0⟩
 p:=fun u=>(u.1.t3.1,(q8 u.2.1.1),(r3 u.2.2 (q3 u.t5)))
 t:=fun u=>(u.1.t4.1,u.t8.1,u.t9.1,u.t10.1)
 n:=fun p t=>(((),(),(),p.1,t.1,()),((r7 p.2.1 (p.2.1.t7,())),((),(),(),()),((),(),(),()),()),(r5 p.2.2 (p.t7,t.2.1,t.2.2.1,t.t3,())))
 st:=fun Y p t ki ke=>cond (decide (t.1<(nt (da p.2.2.1))))
  (ask (V.ja t.1 (da p.2.2.2.2.1)) (cond (gx p.2.2.2.2.1 (fa t.1) false)
  (ask (V.ja t.1 (da p.2.2.1)) ((xz ((gx p.2.2.1 (fa t.1) vj),t.2.1,t.2.2.1,t.2.2.2)).bind fun r1=>
  ki ((Ea (t.1+(1:Int))),r1.1,r1.2.1,r1.2.2)))
  (ki ((Ea (t.1+(1:Int))),t.2.1,t.2.2.1,t.2.2.2))))
  (ke ((t.2.1,t.2.2.1,t.2.2.2)))
 o:=fun Z p e K=>so K (.exit 10) ⟨[(3,.loc 0 0),(7,.v (.all 0)),(9,.v (.all 1)),(10,.loc 1 0),(15,.v (.all 2)),(17,.i),(18,.loc 2 0)],[zb,(cL [(.all 3),(.all 4),(.all 5)]),(cL [(.all 6),(.all 7),(.all 8)])],[.cells De,.cells .i,.cells .bool,.cells .bool,.cells (.pair .bool .bool),.cells ya,.cells .bool,.cells (.pair .bool .bool),.cells ya],0,0⟩ (((),(),(),p.1,()),((r7 p.2.1 (p.2.1.t7,())),((),(),(),()),((),(),(),()),()),(r5 p.2.2 (p.t7,e.1,e.2.1,e.2.2,())))
 Kd:=⟨[3,7,9,10,15,17,18,19],[],[],[]⟩
 pe:=[(.exit 10,⟨[3,7,9,10,15,17,18],[],[],[]⟩)]
def Cm:LD (Y56) (Int×(List Bool)) ((List Bool))where
 sk:=⟨[(3,.loc 0 0),(7,.v (.all 0)),(9,.v (.all 1)),(10,.loc 1 0),(15,.v (.all 2)),(17,.i)],[zb,(cL [(.all 3),(.all 4),(.all 5)])],[.cells De,.cells .i,.cells .bool,.cells .bool,.cells (.pair .bool .bool),.cells ya],0,0⟩
 p:=fun u=>((q8 u.2.1.1),u.2.2.1,u.t3.1,(q3 u.t5))
 t:=fun u=>(u.1.t3.1,u.t4.1)
 n:=fun p t=>(((),(),(),t.1,()),((r7 p.1 (p.1.t7,())),((),(),(),()),()),p.2.1,p.2.2.1,t.2,p.t3.1,p.t4.1,p.t5,())
 st:=fun Y p t ki ke=>cond (decide ((0:Int)<=t.1))
  (ask (V.ja t.1 (da p.2.2.1)) (ask (V.ja (gx p.2.2.1 (fa t.1) (0:Int)) (da t.2)) ((uC p.1).bind fun r1=>
  (Ia (Bm.m (t.1,p.1,p.2.1,p.2.2.1,(Oa t.2 (fa (gx p.2.2.1 (fa t.1) (0:Int))) false),p.2.2.2)) (0,r1.1,r1.2.1,r1.2.2)).bind fun e2=>
  (UF (e2.1,e2.2.1,e2.2.2,p.2.2.2.1,p.2.2.2.2.1,p.2.2.2.2.2)).bind fun r3=>
  cond (!r3)
  (ask (V.ja t.1 (da p.2.2.1)) (ask (V.ja (gx p.2.2.1 (fa t.1) (0:Int)) (da (Oa t.2 (fa (gx p.2.2.1 (fa t.1) (0:Int))) false))) (ki ((Ea (t.1-(1:Int))),(Oa (Oa t.2 (fa (gx p.2.2.1 (fa t.1) (0:Int))) false) (fa (gx p.2.2.1 (fa t.1) (0:Int))) true)))))
  (ki ((Ea (t.1-(1:Int))),(Oa t.2 (fa (gx p.2.2.1 (fa t.1) (0:Int))) false))))))
  (ke (t.2))
 o:=fun Z p e K=>so K (.exit 8) ⟨[(7,.v (.all 0)),(15,.v (.all 1))],[],[.cells De,.cells .bool],0,0⟩ (((),(),()),(),p.2.1,e,())
 Kd:=⟨[3,7,9,10,15,17],[],[],[]⟩
 pe:=[(.exit 8,⟨[7,15],[],[],[]⟩)]
def Am:LD ((List Pa)×(List Bool)) (Int×(List Int)) ((List Int))where
 sk:=⟨[(7,.v (.all 0)),(15,.v (.all 1)),(20,.v (.all 2)),(21,.i)],[],[.cells De,.cells .bool,.cells .i],0,0⟩
 p:=fun u=>(u.2.2.1,u.t3.1)
 t:=fun u=>(u.1.t3.1,u.t4.1)
 n:=fun p t=>(((),(),(),t.1,()),(),p.1,p.2,t.2,())
 st:=fun Y p t ki ke=>cond (decide (t.1<(nt (da p.1))))
  (ask (V.ja t.1 (da p.2)) (cond (gx p.2 (fa t.1) false)
  (ask (decide (((da t.2)+(da ([t.1]:List Int))) * 8<=70368744177664)&&decide (((da t.2)+(da ([t.1]:List Int)))<9223372036854775808)) (ki ((Ea (t.1+(1:Int))),(t.2++([t.1]:List Int)))))
  (ki ((Ea (t.1+(1:Int))),t.2))))
  (ke (t.2))
 o:=fun Z p e K=>so K (.exit 12) ⟨[(20,.v (.all 0))],[],[.cells .i],0,0⟩ (((),()),(),e,())
 Kd:=⟨[7,15,20,21],[(20,(.own (.int .i64)))],[],[]⟩
 pe:=[(.exit 12,⟨[20],[],[],[]⟩)]
def KQ{X:Type}(a:Y31)(K:(List Int)->Option X):Option X:=
 (Ia (Zq.m (a.2,a.1)) (0,[])).bind fun e1=>
 (uC a.1).bind fun r2=>
 (Ia (Yq.m (a.1,e1)) ([],r2.1,r2.2.1,r2.2.2)).bind fun e3=>
 ask (decide (0<=(nt (da e1)))&&decide ((nt (da e1))<=(nt (da e1)))&&decide (1 * (nt (da e1))<=70368744177664)&&decide ((nt (da e1))<9223372036854775808)) ((Ia (Dm.m (a.1,e1,e3)) (0,(Ba (fa (nt (da e1))) (false:Bool)))).bind fun e4=>
 (Ia (Cm.m (a.1,e1,e3)) ((Ea ((nt (da e3.1))-(1:Int))),e4)).bind fun e5=>
 (Ia (Am.m (e1,e5)) (0,[])).bind fun e6=>
 K e6)
def SF:=fun a=>KQ a some
def Uad:Spec:=H_.sp SF
noncomputable def yz:Env:=eE [] (mb [(36,mad),(15,K1),(19,Yad),(35,qad),(13,eae)]) (qL 3 Zq.q (qL 11 Em.q (qL 8 Yq.q (qL 22 Dm.q (qL 31 Bm.q (qL 26 Cm.q (qL 39 Am.q qN)))))))
theorem gU:LS C yz true [3,10,18] 143 (.loop (pc [1,1,0,1,0,0] Tryz.f22)):=fun hc=>
 lO hc Zq (by intros;simp only[Zq,LD.m,nn])
theorem MN:LS C yz true [3,10,18] 143 (.loop (pc [1,1,1,1,1,0,0,0,0,1,1,0,1,0,0] Tryz.f22)):=fun hc=>
 lO hc Em (by intros;simp only[Em,LD.m,nn])
theorem eU:LS C yz true [3,10,18] 143 (.loop (pc [1,1,1,1,1,0,0,0] Tryz.f22)):=fun hc=>
 lO hc Yq (by intros;simp only[Yq,LD.m,nn]) (hl:=(nc (by kernel_rfl) (Va (MN hc) Mb)))
theorem LN:LS C yz true [3,10,18] 143 (.loop (pc [1,1,1,1,1,1,1,0,1,0,0] Tryz.f22)):=fun hc=>
 lO hc Dm (by intros;simp only[Dm,LD.m,nn])
theorem JN:LS C yz true [3,10,18] 143 (.loop (pc [1,1,1,1,1,1,1,1,0,1,0,0,1,0,0,1,1,0,1,0,0] Tryz.f22)):=fun hc=>
 lO hc Bm (by intros;simp only[Bm,LD.m,nn])
theorem KN:LS C yz true [3,10,18] 143 (.loop (pc [1,1,1,1,1,1,1,1,0,1,0,0] Tryz.f22)):=fun hc=>
 lO hc Cm (by intros;simp only[Cm,LD.m,nn]) (hl:=(nc (by kernel_rfl) (Va (JN hc) Mb)))
theorem IN:LS C yz true [3,10,18] 143 (.loop (pc [1,1,1,1,1,1,1,1,1,1,0,1,0,0] Tryz.f22)):=fun hc=>
 lO hc Am (by intros;simp only[Am,LD.m,nn])
theorem Vad:OK (5) 22 (H_.sp SF):=
 fO (d:=4) (env:=yz) (Da (cc nad (cc L1 (cc Zad (cc rad (cc fae cn)))))) (fn:=Tryz.f22) (mc:=@KQ) (by intros;simp only[SF,KQ,nn]) (Fa:=[3,10,18]) (sh:=(.lit (.int .i64))) (fz:=true) (hl:=fun hc=>(nc (by kernel_rfl) (Va (gU hc) (Va (eU hc) (Va (LN hc) (Va (KN hc) (Va (IN hc) Mb)))))))
def Yah:FS (Y31) (Bool)where
 sk:=⟨(cL [(.agg zb),(.lit (.slice .i)),.i]),[],0⟩
 a:=fun u=>((q8 u.1.1),u.1.2.1,u.1.2.2.1)
 o:=fun Z a r K=>kv K (.bool) [] 0 r ()
def M7{X:Type}(a:Y31)(K:Bool->Option X):Option X:=
 (QS a.1).bind fun r1=>
 cond (!r1)
 ((IS ()).bind fun r2=>
 K r2)
 ((aG a.2.2).bind fun r3=>
 (qC (a.1,a.2.1,r3)).bind fun r4=>
 (SF (a.1,a.2.1,r3)).bind fun r5=>
 (rC (r4,r5)).bind fun r6=>
 cond r6
 ((IS ()).bind fun r7=>
 K r7)
 (K false))
def tN:=fun a=>M7 a some
def h_:Spec:=Yah.sp tN
noncomputable def iam:Env:=eE [] (mb [(8,Aah),(9,xah),(10,kae),(21,X0),(22,Uad),(20,B1)]) qN
theorem Zah:OK (9) 4 (Yah.sp tN):=
 fO (d:=8) (env:=iam) (Da (cc Cah (cc zah (cc lae (cc Z0 (cc Vad (cc D1 cn))))))) (fn:=Tryz.f4) (mc:=@M7) (by intros;simp only[tN,M7,nn]) (Fa:=[3])
end
end Go.U
end
