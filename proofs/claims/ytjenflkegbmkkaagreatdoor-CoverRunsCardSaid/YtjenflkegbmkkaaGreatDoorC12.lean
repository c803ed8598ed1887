/- The functions of the program as Lean functions, and that the evaluator says so. -/
import Derived.Test.YtjenflkegbmkkaaGreatDoorC11
set_option linter.unusedVariables false
set_option linter.unusedSimpArgs false
set_option linter.unusedSectionVars false
open Int renaming toNat→fa
open List renaming length→da,set→Qa
section
set_option maxRecDepth 100000
namespace Go.U
open Go Go.Proofs
noncomputable section
variable {C:V.Callee}
def S':FS (Y3) (Int)where
 sk:=⟨(.cons (.agg (cL [(.all 0),(.all 1),(.all 2)])) .nil),[.cells .bool,.cells (.pair .bool .bool),.cells ya],0⟩
 a:=fun u=>(u.2.1,u.2.2.1,u.t3.1)
 o:=fun Z a r K=>kv K .i [.cells .bool,.cells (.pair .bool .bool),.cells ya] 0 r (a.1,a.2.1,a.2.2,())
def Iq:LD (vb) (Int×Int) (Int)where
 sk:=⟨[(1,.loc 0 0),(3,.i),(4,.i)],[(cL [(.all 0),(.all 1),(.all 2)])],[.cells .bool,.cells (.pair .bool .bool),.cells ya],0,3⟩
 p:=fun u=>(q3 u.2.2)
 t:=fun u=>(u.1.1,u.1.2.1)
 n:=fun p t=>((t.1,t.2,()),(((),(),(),()),()),p.1,p.2.1,p.2.2,())
 st:=fun Y p t ki ke=>cond (decide (t.2<(nt (da p.1))))
  (ask (V.ja t.2 (da p.1)) (cond (gx p.1 (fa t.2) false)
  (ask (V.ja t.2 (da p.2.1)) (cond (gx p.2.1 (fa t.2) (false,false)).1
  (ask (V.ja t.2 (da p.2.1)) (cond (gx p.2.1 (fa t.2) (false,false)).2
  (ki ((Ea ((Ea ((Ea (t.1+(1:Int)))+(1:Int)))+(1:Int))),(Ea (t.2+(1:Int)))))
  (ki ((Ea ((Ea (t.1+(1:Int)))+(1:Int))),(Ea (t.2+(1:Int)))))))
  (ask (V.ja t.2 (da p.2.1)) (cond (gx p.2.1 (fa t.2) (false,false)).2
  (ki ((Ea ((Ea (t.1+(1:Int)))+(1:Int))),(Ea (t.2+(1:Int)))))
  (ki ((Ea (t.1+(1:Int))),(Ea (t.2+(1:Int)))))))))
  (ask (V.ja t.2 (da p.2.1)) (cond (gx p.2.1 (fa t.2) (false,false)).1
  (ask (V.ja t.2 (da p.2.1)) (cond (gx p.2.1 (fa t.2) (false,false)).2
  (ki ((Ea ((Ea (t.1+(1:Int)))+(1:Int))),(Ea (t.2+(1:Int)))))
  (ki ((Ea (t.1+(1:Int))),(Ea (t.2+(1:Int)))))))
  (ask (V.ja t.2 (da p.2.1)) (cond (gx p.2.1 (fa t.2) (false,false)).2
  (ki ((Ea (t.1+(1:Int))),(Ea (t.2+(1:Int)))))
  (ki (t.1,(Ea (t.2+(1:Int)))))))))))
  (ke (t.1))
 o:=fun Z p e K=>so K (.exit 0) ⟨[(3,.i)],[],[.cells .bool,.cells (.pair .bool .bool),.cells ya],0,3⟩ ((e,()),(),p.1,p.2.1,p.2.2,())
 Dd:=⟨[1,3,4],[],[],[]⟩
 pe:=[(.exit 0,⟨[3],[],[],[]⟩)]
def YP{X:Type}(a:Y3)(K:Int->Option X):Option X:=
 (Ma (Iq.m a) ((nt (da a.2.2)),0)).bind fun e1=>
 K e1
def YB:=fun a=>YP a some
def ead:Spec:=S'.sp YB
noncomputable def U':Env:=eE [] (yb []) (qL 3 Iq.q qN)
theorem kT:LS C U' true [1] 39 (.loop (pc [1,1,0,1,0,0] Tryz.f19)):=fun hc=>
 lO hc Iq (by intros;simp only[Iq,LD.m,nn])
theorem fad:OK (1) 19 (S'.sp YB):=
 fO (d:=0) (env:=U') (Da cn) (fn:=Tryz.f19) (mc:=@YP) (by intros;simp only[YB,YP,nn]) (Fa:=[1]) (hl:=fun hc=>(nc (by kernel_rfl) (Ua (kT hc) Kb)))
def jah:FS (p_) (Bool)where
 sk:=⟨(cL [(.agg jb),(.lit (.slice .i)),.i]),[],0⟩
 a:=fun u=>((q8 u.1.1),u.1.2.1,u.1.2.2.1)
 o:=fun Z a r K=>kv K (.bool) [] 0 r ()
def Lt:LD ((List (List Int))×Int×Ga×vb×(List Aa)) (Y52) (Unit)where
 sk:=⟨[(1,.v (.lit (.slice .i))),(2,.i),(3,.loc 0 0),(7,.loc 1 0),(8,.loc 2 0),(9,.i)],[jb,(cL [(.all 0),(.all 1),(.all 2)]),(cL [(.all 3),(.all 4),(.all 5)])],[.cells .bool,.cells (.pair .bool .bool),.cells ya,.cells .bool,.cells (.pair .bool .bool),.cells ya],0,0⟩
 p:=fun u=>(u.1.1,u.1.2.1,(q8 u.2.1.1),(q3 u.2.2),u.t7.1)
 t:=fun u=>(u.1.2.2.1,u.t5.1,u.t6.1)
 n:=fun p t=>((p.1,p.2.1,t.1,()),((r7 p.2.2.1 (p.2.2.1.t7,())),((),(),(),()),((),(),(),()),()),p.t3.1.1,p.t3.1.2.1,p.t3.1.2.2,t.2.1,t.2.2,p.t4,())
 st:=fun Y p t ki ke=>cond (decide (t.1<(nt (da t.2.1))))
  (ask (V.ja t.1 (da t.2.1)) (ask (V.ja t.1 (da t.2.1)) (ask (V.ja t.1 (da t.2.2)) (ki ((Ea (t.1+(1:Int))),(Qa t.2.1 (fa t.1) (!(gx t.2.1 (fa t.1) false))),(Qa t.2.2 (fa t.1) (true,true)))))))
  (ke (()))
 o:=fun Z p e K=>so K (.exit 0) ⟨[(1,.v (.lit (.slice .i))),(2,.i),(3,.loc 0 0),(7,.loc 1 0)],[jb,(cL [(.all 0),(.all 1),(.all 2)])],[.cells .bool,.cells (.pair .bool .bool),.cells ya],0,0⟩ ((p.1,p.2.1,()),((r7 p.2.2.1 (p.2.2.1.t7,())),((),(),(),()),()),p.t3.1.1,p.t3.1.2.1,p.t3.1.2.2,())
 Dd:=⟨[1,2,3,7,8,9],[],[],[]⟩
 pe:=[(.exit 0,⟨[1,2,3,7],[],[],[]⟩)]
def G6{X:Type}(a:p_)(K:Bool->Option X):Option X:=
 (dS a.1).bind fun r1=>
 cond (!r1)
 ((WR ()).bind fun r2=>
 K r2)
 ((yF a.2.2).bind fun r3=>
 (xF (a.1,a.2.1,r3)).bind fun r4=>
 (vp (a.1,a.2.1,r3)).bind fun r5=>
 (kz (r5.1,r5.2.1,r5.2.2,r4.1,r4.2.1,r4.2.2)).bind fun r6=>
 cond (!r6)
 (K false)
 ((Nt a.1).bind fun r7=>
 (bC a.1).bind fun r8=>
 (kz (r7.1,r7.2.1,r7.2.2,r8.1,r8.2.1,r8.2.2)).bind fun r9=>
 cond (!r9)
 (K false)
 ((jz (a.1,r5.1,r5.2.1,r5.2.2)).bind fun Zh=>
 (aC (a.1,r4.1,r4.2.1,r4.2.2)).bind fun Eg=>
 cond (!(Zh.toList==Eg.toList))
 (K false)
 ((Mt (r5.1,r5.2.1,r5.2.2)).bind fun Z1=>
 (YB (r4.1,r4.2.1,r4.2.2)).bind fun nU=>
 cond (!(decide (Z1=nU)))
 (K false)
 ((Ma (Lt.m (a.2.1,r3,a.1,r4,r5.2.2)) (0,r5.1,r5.2.1)).bind fun tK=>
 (vp (a.1,a.2.1,r3)).bind fun bV=>
 (kz (bV.1,bV.2.1,bV.2.2,r4.1,r4.2.1,r4.2.2)).bind fun J7=>
 cond J7
 ((WR ()).bind fun W3=>
 K W3)
 (K false))))))
def CM:=fun a=>G6 a some
def M9:Spec:=jah.sp CM
noncomputable def lah:Env:=eE [] (yb [(8,Hag),(9,Eag),(10,vad),(11,sad),(12,MZ),(13,nad),(14,BH),(15,dN),(16,HZ),(17,jad),(18,BZ),(19,ead)]) (qL 9 Lt.q qN)
theorem eZ:LS C lah true [3,7,8] 83 (.loop (pc [1,1,1,1,1,1,0,1,0,0] Tryz.f3)):=fun hc=>
 lO hc Lt (by intros;simp only[Lt,LD.m,nn])
theorem kah:OK (9) 3 (jah.sp CM):=
 fO (d:=8) (env:=lah) (Da (cc Jag (cc Gag (cc wad (cc tad (cc NZ (cc oad (cc CH (cc eN (cc IZ (cc kad (cc CZ (cc fad cn))))))))))))) (fn:=Tryz.f3) (mc:=@G6) (by intros;simp only[CM,G6,nn]) (Fa:=[3,7,8]) (hl:=fun hc=>(nc (by kernel_rfl) (Ua (eZ hc) Kb)))
end
end Go.U
end
