/- The functions of the program as Lean functions, and that the evaluator says so. -/
import Derived.Test.YtjenflkegbmkkaaGreatDoorC10
set_option linter.unusedVariables false
set_option linter.unusedSimpArgs false
set_option linter.unusedSectionVars false
open Int renaming toNat→fa
open List renaming length→da,set→Oa,replicate→Ba
section
set_option maxRecDepth 100000
namespace Go.U
open Go Go.Proofs
noncomputable section
variable {C:V.Callee}
def V':FS (Y27) ((List za))where
 sk:=⟨(cL [(.all 0),(.agg Eg)]),[.cells ya],0⟩
 a:=fun u=>((u.1.2.1.1,u.1.2.1.2.1),u.2.1)
 o:=fun Z a r K=>kv K (.all 1) [.cells ya,.cells ya] 0 () (a.2,r,())
def Yo:LD ((Y27)) (Bool×Int×(List za)) (Bool×(List za))where
 sk:=⟨[(0,.v (.all 0)),(3,.loc 0 0),(5,.v (.all 1)),(6,.v .bool),(7,.i)],[Eg],[.cells ya,.cells ya],0,1⟩
 p:=fun u=>((u.2.1.1.1,u.2.1.1.2.1),u.2.2.1)
 t:=fun u=>(u.1.2.2.1,u.1.t3.1,u.t3.1)
 n:=fun p t=>(((),(),t.1,t.2.1,()),((p.1.1,p.1.2,()),()),p.2,t.2.2,())
 st:=fun Y p t ki ke=>cond (decide (t.2.1<(nt (da p.2))))
  (ask (V.ja t.2.1 (da p.2)) (cond (decide (p.1.1<(gx p.2 (fa t.2.1) vb).1))
  (cond (!t.1)
  (ask (decide (((da t.2.2)+(da ([p.1]:List za))) * 16<=70368744177664)&&decide (((da t.2.2)+(da ([p.1]:List za)))<9223372036854775808)) (ask (V.ja t.2.1 (da p.2)) (ask (decide (((da (t.2.2++([p.1]:List za)))+(da ([(gx p.2 (fa t.2.1) vb)]:List za))) * 16<=70368744177664)&&decide (((da (t.2.2++([p.1]:List za)))+(da ([(gx p.2 (fa t.2.1) vb)]:List za)))<9223372036854775808)) (ki (true,(Ea (t.2.1+(1:Int))),((t.2.2++([p.1]:List za))++([(gx p.2 (fa t.2.1) vb)]:List za)))))))
  (cond t.1
  (ask (V.ja t.2.1 (da p.2)) (ask (decide (((da t.2.2)+(da ([(gx p.2 (fa t.2.1) vb)]:List za))) * 16<=70368744177664)&&decide (((da t.2.2)+(da ([(gx p.2 (fa t.2.1) vb)]:List za)))<9223372036854775808)) (ki (true,(Ea (t.2.1+(1:Int))),(t.2.2++([(gx p.2 (fa t.2.1) vb)]:List za))))))
  (ask (V.ja t.2.1 (da p.2)) (ask (V.ja t.2.1 (da p.2)) (ask (decide (((da t.2.2)+(da ([(gx p.2 (fa t.2.1) vb)]:List za))) * 16<=70368744177664)&&decide (((da t.2.2)+(da ([(gx p.2 (fa t.2.1) vb)]:List za)))<9223372036854775808)) (ki (((decide ((gx p.2 (fa t.2.1) vb).1=p.1.1))&&((decide ((gx p.2 (fa t.2.1) vb).2=p.1.2))&&true)),(Ea (t.2.1+(1:Int))),(t.2.2++([(gx p.2 (fa t.2.1) vb)]:List za)))))))))
  (ask (V.ja t.2.1 (da p.2)) (cond (decide ((gx p.2 (fa t.2.1) vb).1=p.1.1))
  (ask (V.ja t.2.1 (da p.2)) (cond (decide (p.1.2<(gx p.2 (fa t.2.1) vb).2))
  (cond (!t.1)
  (ask (decide (((da t.2.2)+(da ([p.1]:List za))) * 16<=70368744177664)&&decide (((da t.2.2)+(da ([p.1]:List za)))<9223372036854775808)) (ask (V.ja t.2.1 (da p.2)) (ask (decide (((da (t.2.2++([p.1]:List za)))+(da ([(gx p.2 (fa t.2.1) vb)]:List za))) * 16<=70368744177664)&&decide (((da (t.2.2++([p.1]:List za)))+(da ([(gx p.2 (fa t.2.1) vb)]:List za)))<9223372036854775808)) (ki (true,(Ea (t.2.1+(1:Int))),((t.2.2++([p.1]:List za))++([(gx p.2 (fa t.2.1) vb)]:List za)))))))
  (cond t.1
  (ask (V.ja t.2.1 (da p.2)) (ask (decide (((da t.2.2)+(da ([(gx p.2 (fa t.2.1) vb)]:List za))) * 16<=70368744177664)&&decide (((da t.2.2)+(da ([(gx p.2 (fa t.2.1) vb)]:List za)))<9223372036854775808)) (ki (true,(Ea (t.2.1+(1:Int))),(t.2.2++([(gx p.2 (fa t.2.1) vb)]:List za))))))
  (ask (V.ja t.2.1 (da p.2)) (ask (V.ja t.2.1 (da p.2)) (ask (decide (((da t.2.2)+(da ([(gx p.2 (fa t.2.1) vb)]:List za))) * 16<=70368744177664)&&decide (((da t.2.2)+(da ([(gx p.2 (fa t.2.1) vb)]:List za)))<9223372036854775808)) (ki (((decide ((gx p.2 (fa t.2.1) vb).1=p.1.1))&&((decide ((gx p.2 (fa t.2.1) vb).2=p.1.2))&&true)),(Ea (t.2.1+(1:Int))),(t.2.2++([(gx p.2 (fa t.2.1) vb)]:List za)))))))))
  (cond t.1
  (ask (V.ja t.2.1 (da p.2)) (ask (decide (((da t.2.2)+(da ([(gx p.2 (fa t.2.1) vb)]:List za))) * 16<=70368744177664)&&decide (((da t.2.2)+(da ([(gx p.2 (fa t.2.1) vb)]:List za)))<9223372036854775808)) (ki (true,(Ea (t.2.1+(1:Int))),(t.2.2++([(gx p.2 (fa t.2.1) vb)]:List za))))))
  (ask (V.ja t.2.1 (da p.2)) (ask (V.ja t.2.1 (da p.2)) (ask (decide (((da t.2.2)+(da ([(gx p.2 (fa t.2.1) vb)]:List za))) * 16<=70368744177664)&&decide (((da t.2.2)+(da ([(gx p.2 (fa t.2.1) vb)]:List za)))<9223372036854775808)) (ki (((decide ((gx p.2 (fa t.2.1) vb).1=p.1.1))&&((decide ((gx p.2 (fa t.2.1) vb).2=p.1.2))&&true)),(Ea (t.2.1+(1:Int))),(t.2.2++([(gx p.2 (fa t.2.1) vb)]:List za))))))))))
  (cond t.1
  (ask (V.ja t.2.1 (da p.2)) (ask (decide (((da t.2.2)+(da ([(gx p.2 (fa t.2.1) vb)]:List za))) * 16<=70368744177664)&&decide (((da t.2.2)+(da ([(gx p.2 (fa t.2.1) vb)]:List za)))<9223372036854775808)) (ki (true,(Ea (t.2.1+(1:Int))),(t.2.2++([(gx p.2 (fa t.2.1) vb)]:List za))))))
  (ask (V.ja t.2.1 (da p.2)) (ask (V.ja t.2.1 (da p.2)) (ask (decide (((da t.2.2)+(da ([(gx p.2 (fa t.2.1) vb)]:List za))) * 16<=70368744177664)&&decide (((da t.2.2)+(da ([(gx p.2 (fa t.2.1) vb)]:List za)))<9223372036854775808)) (ki (((decide ((gx p.2 (fa t.2.1) vb).1=p.1.1))&&((decide ((gx p.2 (fa t.2.1) vb).2=p.1.2))&&true)),(Ea (t.2.1+(1:Int))),(t.2.2++([(gx p.2 (fa t.2.1) vb)]:List za))))))))))))
  (ke ((t.1,t.2.2)))
 o:=fun Z p e K=>so K (.exit 0) ⟨[(3,.loc 0 0),(5,.v (.all 1)),(6,.v .bool)],[Eg],[.cells ya,.cells ya],0,1⟩ (((),e.1,()),((p.1.1,p.1.2,()),()),p.2,e.2,())
 Kd:=⟨[0,3,5,6,7],[(5,(.own ya))],[],[]⟩
 pe:=[(.exit 0,⟨[3,5,6],[],[],[]⟩)]
def bQ{X:Type}(a:Y27)(K:(List za)->Option X):Option X:=
 (Ia (Yo.m a) (false,0,[])).bind fun e1=>
 cond (!e1.1)
 (ask (decide (((da e1.2)+(da ([a.1]:List za))) * 16<=70368744177664)&&decide (((da e1.2)+(da ([a.1]:List za)))<9223372036854775808)) (K (e1.2++([a.1]:List za))))
 (K e1.2)
def uz:=fun a=>bQ a some
def sZ:Spec:=V'.sp uz
noncomputable def X':Env:=eE [] (mb []) (qL 4 Yo.q qN)
theorem qT:LS C X' true [3] 75 (.loop (pc [1,1,1,0,1,0,0] Tryz.f63)):=fun hc=>
 lO hc Yo (by intros;simp only[Yo,LD.m,nn])
theorem tZ:OK (1) 63 (V'.sp uz):=
 fO (d:=0) (env:=X') (Da cn) (fn:=Tryz.f63) (mc:=@bQ) (by intros;simp only[uz,bQ,nn]) (Fa:=[3]) (sh:=(.own ya)) (hl:=fun hc=>(nc (by kernel_rfl) (Va (qT hc) Mb)))
def S':FS (Y4) (Y51)where
 sk:=⟨(cL [(.agg zb),(.lit .i),.i]),[],0⟩
 a:=fun u=>((q8 u.1.1),u.1.2.1,u.1.2.2.1)
 o:=fun Z a r K=>kv K (.Qc (cL [(.agg (cL [(.all 0),(.all 1),(.all 2)])),(.ptr 3 0)])) [.cells .bool,.cells (.pair .bool .bool),.cells ya,.Za (cL [(.lit Md),.i,.i,.i,(.lit Nd),(.lit Qf),(.lit Nd),(.lit ya),(.lit .i),.i,.i,(.all 4),.i,.i,.i,.i,.i,.Ya,(.all 5),(.all 6)]),.cells .i,.deep .i,.cells (.slice .i)] 0 (((),(),(),()),(),()) (r3 r ((r7 a.1 (a.1.t7,a.2.1,r.t3.1,r.t4.1,(),(r5 r.t5 ((),(),(),())))),r.t10.1,r.t11.1,r.t12,()))
def Xo:LD (Ga×Ga×(List Int)×(List za)) (Int×Int×Int×Int×Int×Int×Int×Int×Int×(List Int)×(List (List Int))×(List (List Int))×(List Bool)×(List (Bool×Bool))) (Int×Int×Int×Int×Int×Int×Int×(List Int)×(List (List Int))×(List (List Int))×(List Bool)×(List (Bool×Bool)))where
 sk:=⟨[(3,.loc 0 0),(6,.loc 1 0),(8,.loc 2 0),(9,.p 0 0),(10,.i),(11,.i)],[zb,(cL [.Ya,.Ya,.Ya]),(cL [(.all 4),(.all 5),(.all 6)])],[.Za Dd,.cells .i,.deep .i,.cells (.slice .i),.cells .bool,.cells (.pair .bool .bool),.cells ya],0,0⟩
 p:=fun u=>((q8 u.2.1.1),(q8 u.2.2.1),u.2.2.1.t8.1,u.t8.1)
 t:=fun u=>(u.1.2.1,u.1.2.2.1,u.2.2.1.t9.1,u.2.2.1.t10.1,(r5 u.2.2.1.t12 (r4 u.t3 u.t7.1)))
 n:=fun p t=>(((),t.1,t.2.1,()),((r7 p.1 (p.1.t7,())),((),(),(),()),((),(),(),()),()),(r7 p.2.1 (p.2.1.t7,p.2.2.1,t.2.2.1,t.t3.1,(),(r5 t.t4 ((),(),(),())))),(r4 t.t9 (t.t13,p.t3,())))
 st:=fun Y p t ki ke=>cond (decide (t.2.2.2.2.1=(0:Int)))
  (cond (decide ((0:Int)<=t.1))
  (ask (V.ja t.1 (da t.2.2.2.2.2.2.2.2.2.2.2.2.2)) (cond (decide (t.2.1=(0:Int)))
  (ask (V.ja t.2.2.2.1 (da t.2.2.2.2.2.2.2.2.2.2.2.2.1)) (ask (V.ja t.2.2.2.1 (da p.1.1)) (cond (decide ((gx p.1.1 (fa t.2.2.2.1) Ta).1=(15:Int)))
  (ask (V.ja t.2.2.2.1 (da p.1.1)) ((Bh ((gx p.1.1 (fa t.2.2.2.1) Ta),p.2.1.1,p.2.1.2.1,p.2.1.2.2.1,p.2.1.2.2.2.1,p.2.1.2.2.2.2.1,p.2.1.2.2.2.2.2.1,p.2.1.2.2.2.2.2.2.1,p.2.1.2.2.2.2.2.2.2,p.2.2.1,t.2.2.1,t.2.2.2.1,t.2.2.2.2.1,t.2.2.2.2.2.1,t.2.2.2.2.2.2.1,t.2.2.2.2.2.2.2.1,t.2.2.2.2.2.2.2.2.1,t.2.2.2.2.2.2.2.2.2.1,t.2.2.2.2.2.2.2.2.2.2.1,t.2.2.2.2.2.2.2.2.2.2.2.1)).bind fun r1=>
  (vg (p.2.1.1,p.2.1.2.1,p.2.1.2.2.1,p.2.1.2.2.2.1,p.2.1.2.2.2.2.1,p.2.1.2.2.2.2.2.1,p.2.1.2.2.2.2.2.2.1,p.2.1.2.2.2.2.2.2.2,p.2.2.1,t.2.2.1,t.2.2.2.1,t.2.2.2.2.1,t.2.2.2.2.2.1,t.2.2.2.2.2.2.1,t.2.2.2.2.2.2.2.1,t.2.2.2.2.2.2.2.2.1,t.2.2.2.2.2.2.2.2.2.1,t.2.2.2.2.2.2.2.2.2.2.1,t.2.2.2.2.2.2.2.2.2.2.2.1)).bind fun r2=>
  Sum.elim (fun r3=>ki (t.2.2.2.1,r1,r3.1,t.2.2.2.1,r3.2.1,r3.2.2.1,r3.2.2.2.1,t.2.2.2.2.2.2.2.1,r3.2.2.2.2,t.2.2.2.2.2.2.2.2.2.1,t.2.2.2.2.2.2.2.2.2.2.1,t.2.2.2.2.2.2.2.2.2.2.2.1,(Oa t.2.2.2.2.2.2.2.2.2.2.2.2.1 (fa t.2.2.2.1) true),(Oa t.2.2.2.2.2.2.2.2.2.2.2.2.2 (fa t.1) (true,(gx t.2.2.2.2.2.2.2.2.2.2.2.2.2 (fa t.1) (false,false)).2))))
  (fun r4=>ki (t.2.2.2.1,r1,r4.1,r4.2.1,r4.2.2.1,t.2.2.2.2.2.1,t.2.2.2.2.2.2.1,r4.2.2.2.1,r4.2.2.2.2.1,r4.2.2.2.2.2.1,r4.2.2.2.2.2.2.1,r4.2.2.2.2.2.2.2,(Oa t.2.2.2.2.2.2.2.2.2.2.2.2.1 (fa t.2.2.2.1) true),(Oa t.2.2.2.2.2.2.2.2.2.2.2.2.2 (fa t.1) (true,(gx t.2.2.2.2.2.2.2.2.2.2.2.2.2 (fa t.1) (false,false)).2)))) r2))
  ((vg (p.2.1.1,p.2.1.2.1,p.2.1.2.2.1,p.2.1.2.2.2.1,p.2.1.2.2.2.2.1,p.2.1.2.2.2.2.2.1,p.2.1.2.2.2.2.2.2.1,p.2.1.2.2.2.2.2.2.2,p.2.2.1,t.2.2.1,t.2.2.2.1,t.2.2.2.2.1,t.2.2.2.2.2.1,t.2.2.2.2.2.2.1,t.2.2.2.2.2.2.2.1,t.2.2.2.2.2.2.2.2.1,t.2.2.2.2.2.2.2.2.2.1,t.2.2.2.2.2.2.2.2.2.2.1,t.2.2.2.2.2.2.2.2.2.2.2.1)).bind fun r5=>
  Sum.elim (fun r6=>ki (t.2.2.2.1,0,r6.1,t.2.2.2.1,r6.2.1,r6.2.2.1,r6.2.2.2.1,t.2.2.2.2.2.2.2.1,r6.2.2.2.2,t.2.2.2.2.2.2.2.2.2.1,t.2.2.2.2.2.2.2.2.2.2.1,t.2.2.2.2.2.2.2.2.2.2.2.1,(Oa t.2.2.2.2.2.2.2.2.2.2.2.2.1 (fa t.2.2.2.1) true),(Oa t.2.2.2.2.2.2.2.2.2.2.2.2.2 (fa t.1) (true,(gx t.2.2.2.2.2.2.2.2.2.2.2.2.2 (fa t.1) (false,false)).2))))
  (fun r7=>ki (t.2.2.2.1,0,r7.1,r7.2.1,r7.2.2.1,t.2.2.2.2.2.1,t.2.2.2.2.2.2.1,r7.2.2.2.1,r7.2.2.2.2.1,r7.2.2.2.2.2.1,r7.2.2.2.2.2.2.1,r7.2.2.2.2.2.2.2,(Oa t.2.2.2.2.2.2.2.2.2.2.2.2.1 (fa t.2.2.2.1) true),(Oa t.2.2.2.2.2.2.2.2.2.2.2.2.2 (fa t.1) (true,(gx t.2.2.2.2.2.2.2.2.2.2.2.2.2 (fa t.1) (false,false)).2)))) r5))))
  (cond (decide (t.2.1=(1:Int)))
  (ask (V.ja t.2.2.2.1 (da t.2.2.2.2.2.2.2.2.2.2.2.2.1)) (ask (V.ja t.2.2.2.1 (da p.1.1)) (cond (decide ((gx p.1.1 (fa t.2.2.2.1) Ta).1=(15:Int)))
  (ask (V.ja t.2.2.2.1 (da p.1.1)) ((Bh ((gx p.1.1 (fa t.2.2.2.1) Ta),p.2.1.1,p.2.1.2.1,p.2.1.2.2.1,p.2.1.2.2.2.1,p.2.1.2.2.2.2.1,p.2.1.2.2.2.2.2.1,p.2.1.2.2.2.2.2.2.1,p.2.1.2.2.2.2.2.2.2,p.2.2.1,t.2.2.1,t.2.2.2.1,t.2.2.2.2.1,t.2.2.2.2.2.1,t.2.2.2.2.2.2.1,t.2.2.2.2.2.2.2.1,t.2.2.2.2.2.2.2.2.1,t.2.2.2.2.2.2.2.2.2.1,t.2.2.2.2.2.2.2.2.2.2.1,t.2.2.2.2.2.2.2.2.2.2.2.1)).bind fun r8=>
  (vg (p.2.1.1,p.2.1.2.1,p.2.1.2.2.1,p.2.1.2.2.2.1,p.2.1.2.2.2.2.1,p.2.1.2.2.2.2.2.1,p.2.1.2.2.2.2.2.2.1,p.2.1.2.2.2.2.2.2.2,p.2.2.1,t.2.2.1,t.2.2.2.1,t.2.2.2.2.1,t.2.2.2.2.2.1,t.2.2.2.2.2.2.1,t.2.2.2.2.2.2.2.1,t.2.2.2.2.2.2.2.2.1,t.2.2.2.2.2.2.2.2.2.1,t.2.2.2.2.2.2.2.2.2.2.1,t.2.2.2.2.2.2.2.2.2.2.2.1)).bind fun r9=>
  Sum.elim (fun Ei=>ki (t.2.2.2.1,r8,Ei.1,t.2.2.2.1,Ei.2.1,Ei.2.2.1,Ei.2.2.2.1,t.2.2.2.2.2.2.2.1,Ei.2.2.2.2,t.2.2.2.2.2.2.2.2.2.1,t.2.2.2.2.2.2.2.2.2.2.1,t.2.2.2.2.2.2.2.2.2.2.2.1,(Oa t.2.2.2.2.2.2.2.2.2.2.2.2.1 (fa t.2.2.2.1) true),(Oa t.2.2.2.2.2.2.2.2.2.2.2.2.2 (fa t.1) ((gx t.2.2.2.2.2.2.2.2.2.2.2.2.2 (fa t.1) (false,false)).1,true))))
  (fun Ig=>ki (t.2.2.2.1,r8,Ig.1,Ig.2.1,Ig.2.2.1,t.2.2.2.2.2.1,t.2.2.2.2.2.2.1,Ig.2.2.2.1,Ig.2.2.2.2.1,Ig.2.2.2.2.2.1,Ig.2.2.2.2.2.2.1,Ig.2.2.2.2.2.2.2,(Oa t.2.2.2.2.2.2.2.2.2.2.2.2.1 (fa t.2.2.2.1) true),(Oa t.2.2.2.2.2.2.2.2.2.2.2.2.2 (fa t.1) ((gx t.2.2.2.2.2.2.2.2.2.2.2.2.2 (fa t.1) (false,false)).1,true)))) r9))
  ((vg (p.2.1.1,p.2.1.2.1,p.2.1.2.2.1,p.2.1.2.2.2.1,p.2.1.2.2.2.2.1,p.2.1.2.2.2.2.2.1,p.2.1.2.2.2.2.2.2.1,p.2.1.2.2.2.2.2.2.2,p.2.2.1,t.2.2.1,t.2.2.2.1,t.2.2.2.2.1,t.2.2.2.2.2.1,t.2.2.2.2.2.2.1,t.2.2.2.2.2.2.2.1,t.2.2.2.2.2.2.2.2.1,t.2.2.2.2.2.2.2.2.2.1,t.2.2.2.2.2.2.2.2.2.2.1,t.2.2.2.2.2.2.2.2.2.2.2.1)).bind fun T8=>
  Sum.elim (fun B4=>ki (t.2.2.2.1,0,B4.1,t.2.2.2.1,B4.2.1,B4.2.2.1,B4.2.2.2.1,t.2.2.2.2.2.2.2.1,B4.2.2.2.2,t.2.2.2.2.2.2.2.2.2.1,t.2.2.2.2.2.2.2.2.2.2.1,t.2.2.2.2.2.2.2.2.2.2.2.1,(Oa t.2.2.2.2.2.2.2.2.2.2.2.2.1 (fa t.2.2.2.1) true),(Oa t.2.2.2.2.2.2.2.2.2.2.2.2.2 (fa t.1) ((gx t.2.2.2.2.2.2.2.2.2.2.2.2.2 (fa t.1) (false,false)).1,true))))
  (fun aV=>ki (t.2.2.2.1,0,aV.1,aV.2.1,aV.2.2.1,t.2.2.2.2.2.1,t.2.2.2.2.2.2.1,aV.2.2.2.1,aV.2.2.2.2.1,aV.2.2.2.2.2.1,aV.2.2.2.2.2.2.1,aV.2.2.2.2.2.2.2,(Oa t.2.2.2.2.2.2.2.2.2.2.2.2.1 (fa t.2.2.2.1) true),(Oa t.2.2.2.2.2.2.2.2.2.2.2.2.2 (fa t.1) ((gx t.2.2.2.2.2.2.2.2.2.2.2.2.2 (fa t.1) (false,false)).1,true)))) T8))))
  (none))))
  (ask (V.ja t.2.2.2.1 (da t.2.2.2.2.2.2.2.2.2.2.2.2.1)) (ask (V.ja t.2.2.2.1 (da p.1.1)) (cond (decide ((gx p.1.1 (fa t.2.2.2.1) Ta).1=(15:Int)))
  (ask (V.ja t.2.2.2.1 (da p.1.1)) ((Bh ((gx p.1.1 (fa t.2.2.2.1) Ta),p.2.1.1,p.2.1.2.1,p.2.1.2.2.1,p.2.1.2.2.2.1,p.2.1.2.2.2.2.1,p.2.1.2.2.2.2.2.1,p.2.1.2.2.2.2.2.2.1,p.2.1.2.2.2.2.2.2.2,p.2.2.1,t.2.2.1,t.2.2.2.1,t.2.2.2.2.1,t.2.2.2.2.2.1,t.2.2.2.2.2.2.1,t.2.2.2.2.2.2.2.1,t.2.2.2.2.2.2.2.2.1,t.2.2.2.2.2.2.2.2.2.1,t.2.2.2.2.2.2.2.2.2.2.1,t.2.2.2.2.2.2.2.2.2.2.2.1)).bind fun r15=>
  (vg (p.2.1.1,p.2.1.2.1,p.2.1.2.2.1,p.2.1.2.2.2.1,p.2.1.2.2.2.2.1,p.2.1.2.2.2.2.2.1,p.2.1.2.2.2.2.2.2.1,p.2.1.2.2.2.2.2.2.2,p.2.2.1,t.2.2.1,t.2.2.2.1,t.2.2.2.2.1,t.2.2.2.2.2.1,t.2.2.2.2.2.2.1,t.2.2.2.2.2.2.2.1,t.2.2.2.2.2.2.2.2.1,t.2.2.2.2.2.2.2.2.2.1,t.2.2.2.2.2.2.2.2.2.2.1,t.2.2.2.2.2.2.2.2.2.2.2.1)).bind fun r16=>
  Sum.elim (fun r17=>ki (t.2.2.2.1,r15,r17.1,t.2.2.2.1,r17.2.1,r17.2.2.1,r17.2.2.2.1,t.2.2.2.2.2.2.2.1,r17.2.2.2.2,t.2.2.2.2.2.2.2.2.2.1,t.2.2.2.2.2.2.2.2.2.2.1,t.2.2.2.2.2.2.2.2.2.2.2.1,(Oa t.2.2.2.2.2.2.2.2.2.2.2.2.1 (fa t.2.2.2.1) true),t.2.2.2.2.2.2.2.2.2.2.2.2.2))
  (fun y4=>ki (t.2.2.2.1,r15,y4.1,y4.2.1,y4.2.2.1,t.2.2.2.2.2.1,t.2.2.2.2.2.2.1,y4.2.2.2.1,y4.2.2.2.2.1,y4.2.2.2.2.2.1,y4.2.2.2.2.2.2.1,y4.2.2.2.2.2.2.2,(Oa t.2.2.2.2.2.2.2.2.2.2.2.2.1 (fa t.2.2.2.1) true),t.2.2.2.2.2.2.2.2.2.2.2.2.2)) r16))
  ((vg (p.2.1.1,p.2.1.2.1,p.2.1.2.2.1,p.2.1.2.2.2.1,p.2.1.2.2.2.2.1,p.2.1.2.2.2.2.2.1,p.2.1.2.2.2.2.2.2.1,p.2.1.2.2.2.2.2.2.2,p.2.2.1,t.2.2.1,t.2.2.2.1,t.2.2.2.2.1,t.2.2.2.2.2.1,t.2.2.2.2.2.2.1,t.2.2.2.2.2.2.2.1,t.2.2.2.2.2.2.2.2.1,t.2.2.2.2.2.2.2.2.2.1,t.2.2.2.2.2.2.2.2.2.2.1,t.2.2.2.2.2.2.2.2.2.2.2.1)).bind fun r19=>
  Sum.elim (fun K5=>ki (t.2.2.2.1,0,K5.1,t.2.2.2.1,K5.2.1,K5.2.2.1,K5.2.2.2.1,t.2.2.2.2.2.2.2.1,K5.2.2.2.2,t.2.2.2.2.2.2.2.2.2.1,t.2.2.2.2.2.2.2.2.2.2.1,t.2.2.2.2.2.2.2.2.2.2.2.1,(Oa t.2.2.2.2.2.2.2.2.2.2.2.2.1 (fa t.2.2.2.1) true),t.2.2.2.2.2.2.2.2.2.2.2.2.2))
  (fun QV=>ki (t.2.2.2.1,0,QV.1,QV.2.1,QV.2.2.1,t.2.2.2.2.2.1,t.2.2.2.2.2.2.1,QV.2.2.2.1,QV.2.2.2.2.1,QV.2.2.2.2.2.1,QV.2.2.2.2.2.2.1,QV.2.2.2.2.2.2.2,(Oa t.2.2.2.2.2.2.2.2.2.2.2.2.1 (fa t.2.2.2.1) true),t.2.2.2.2.2.2.2.2.2.2.2.2.2)) r19)))))
  (ke ((t.2.2.1,t.2.2.2.1,t.2.2.2.2.1,t.2.2.2.2.2.1,t.2.2.2.2.2.2.1,t.2.2.2.2.2.2.2.1,t.2.2.2.2.2.2.2.2.1,t.2.2.2.2.2.2.2.2.2.1,t.2.2.2.2.2.2.2.2.2.2.1,t.2.2.2.2.2.2.2.2.2.2.2.1,t.2.2.2.2.2.2.2.2.2.2.2.2.1,t.2.2.2.2.2.2.2.2.2.2.2.2.2)))
 o:=fun Z p e K=>so K (.exit 0) ⟨[(6,.loc 0 0),(8,.loc 1 0),(9,.p 0 0)],[(cL [.Ya,.Ya,.Ya]),(cL [(.all 4),(.all 5),(.all 6)])],[.Za Dd,.cells .i,.deep .i,.cells (.slice .i),.cells .bool,.cells (.pair .bool .bool),.cells ya],0,0⟩ (((),()),(((),(),(),()),((),(),(),()),()),(r7 p.2.1 (p.2.1.t7,p.2.2.1,e.1,e.2.1,(),(r5 e.2.2 ((),(),(),())))),(r4 e.t7 (e.t11,p.t3,())))
 Kd:=⟨[3,6,8,9,10,11],[],[],[(0,[.any,.any,.any,.any,.any,.any,.any,.any,.any,.any,.any,.any,.any,.any,.any,.any,.any,.any,.any,(.own (.slice (.int .i64)))])]⟩
 pe:=[(.exit 0,⟨[6,8,9],[],[],[]⟩)]
def aQ{X:Type}(a:Y4)(K:Y51->Option X):Option X:=
 (uC a.1).bind fun r1=>
 (yF (a.1,a.2.1,a.2.2)).bind fun r2=>
 (Ia (Xo.m (a.1,a.1,a.2.1,r1.2.2)) ((-1),0,a.2.2,0,0,0,0,0,0,r2.1,r2.2,[],r1.1,r1.2.1)).bind fun e3=>
 cond (decide (e3.2.2.1=(1:Int)))
 ((uz ((e3.2.2.2.1,e3.2.2.2.2.1),r1.2.2)).bind fun r4=>
 K (e3.2.2.2.2.2.2.2.2.2.2.1,e3.2.2.2.2.2.2.2.2.2.2.2,r4,e3.1,e3.2.1,e3.2.2.1,e3.2.2.2.1,e3.2.2.2.2.1,e3.2.2.2.2.2.1,e3.2.2.2.2.2.2.1,e3.2.2.2.2.2.2.2.1,e3.2.2.2.2.2.2.2.2.1,e3.2.2.2.2.2.2.2.2.2.1))
 (K (e3.2.2.2.2.2.2.2.2.2.2.1,e3.2.2.2.2.2.2.2.2.2.2.2,r1.2.2,e3.1,e3.2.1,e3.2.2.1,e3.2.2.2.1,e3.2.2.2.2.1,e3.2.2.2.2.2.1,e3.2.2.2.2.2.2.1,e3.2.2.2.2.2.2.2.1,e3.2.2.2.2.2.2.2.2.1,e3.2.2.2.2.2.2.2.2.2.1))
def DF:=fun a=>aQ a some
def Mac:Spec:=S'.sp DF
noncomputable def U':Env:=eE [] (mb [(15,K1),(99,eac),(100,GU),(101,EU),(63,sZ)]) (qL 5 Xo.q qN)
theorem pT:LS C U' true [3,6,8] 79 (.loop (pc [1,1,1,1,1,0,0,0] Tryz.f64)):=fun hc=>
 lO hc Xo (by intros;simp only[Xo,LD.m,nn])
theorem Nac:OK (3) 64 (S'.sp DF):=
 fO (d:=2) (env:=U') (Da (cc L1 (cc fac (cc HU (cc FU (cc tZ cn)))))) (fn:=Tryz.f64) (mc:=@aQ) (by intros;simp only[DF,aQ,nn]) (Fa:=[3,6,8]) (sh:=(.Qc [(.agg [(.own .bool),(.own (.pair .bool .bool)),(.own ya)]),.any])) (hl:=fun hc=>(nc (by kernel_rfl) (Va (pT hc) Mb)))
def v_:FS (Y4) (Pa)where
 sk:=⟨(cL [(.agg zb),(.lit .i),.i]),[],0⟩
 a:=fun u=>((q8 u.1.1),u.1.2.1,u.1.2.2.1)
 o:=fun Z a r K=>kv K (.agg Cd) [] 0 (r.1,r.2.1,r.2.2,()) ()
def uQ{X:Type}(a:Y4)(K:Pa->Option X):Option X:=
 (DF (a.1,a.2.1,a.2.2)).bind fun r1=>
 K (r1.1,(r1.2.1,r1.2.2.1))
def JF:=fun a=>uQ a some
def mad:Spec:=v_.sp JF
noncomputable def eai:Env:=eE [] (mb [(64,Mac)]) qN
theorem nad:OK (4) 36 (v_.sp JF):=
 fO (d:=3) (env:=eai) (Da (cc Nac cn)) (fn:=Tryz.f36) (mc:=@uQ) (by intros;simp only[JF,uQ,nn]) (Fa:=[3,6,7]) (sh:=(.agg [(.lit .bool),(.lit (.pair .bool .bool)),(.lit ya)])) (fz:=true)
def w_:FS (E8) (Y3)where
 sk:=⟨(cL [(.agg (cL [(.all 0),(.all 1),(.all 2)])),(.agg Cd)]),[.cells .bool,.cells (.pair .bool .bool),.cells ya],0⟩
 a:=fun u=>((q3 u.1.2.1),u.2.1,u.2.2.1,u.t3.1)
 o:=fun Z a r K=>kv K (.agg (cL [(.all 3),(.all 4),(.all 5)])) [.cells .bool,.cells (.pair .bool .bool),.cells ya,.cells .bool,.cells (.pair .bool .bool),.cells ya] 0 ((),(),(),()) (a.2.1,a.2.2.1,a.t3,r.1,r.2.1,r.2.2,())
def Zm:LD ((Pa×Pa)) (Y52) (Y53)where
 sk:=⟨[(2,.loc 0 0),(3,.loc 1 0),(4,.loc 2 0),(5,.loc 3 0),(6,.i)],[(cL [(.all 0),(.all 1),(.all 2)]),Cd,(cL [.Ya,.Ya,.Ya]),(cL [(.all 3),(.all 4),.Ya])],[.cells .bool,.cells (.pair .bool .bool),.cells ya,.cells .bool,.cells (.pair .bool .bool)],0,3⟩
 p:=fun u=>((q3 u.2.1.2.1),(q3 u.2.2))
 t:=fun u=>(u.1.1,u.t5.1,u.t6.1)
 n:=fun p t=>((t.1,()),(((),(),(),()),(p.1.1,p.1.2.1,p.1.2.2,()),((),(),(),()),((),(),(),()),()),p.2.1,p.2.2.1,p.t3,t.2.1,t.2.2,())
 st:=fun Y p t ki ke=>cond (decide (t.1<(nt (da p.2.1))))
  (ask (V.ja t.1 (da p.2.1)) (cond (gx p.2.1 (fa t.1) false)
  (ask (V.ja t.1 (da t.2.1)) (ask (V.ja t.1 (da p.2.2.1)) (cond (gx p.2.2.1 (fa t.1) (false,false)).1
  (ask (V.ja t.1 (da t.2.2)) (ask (V.ja t.1 (da p.2.2.1)) (cond (gx p.2.2.1 (fa t.1) (false,false)).2
  (ask (V.ja t.1 (da (Oa t.2.2 (fa t.1) (true,(gx t.2.2 (fa t.1) (false,false)).2)))) (ki ((Ea (t.1+(1:Int))),(Oa t.2.1 (fa t.1) true),(Oa (Oa t.2.2 (fa t.1) (true,(gx t.2.2 (fa t.1) (false,false)).2)) (fa t.1) ((gx (Oa t.2.2 (fa t.1) (true,(gx t.2.2 (fa t.1) (false,false)).2)) (fa t.1) (false,false)).1,true)))))
  (ask (V.ja t.1 (da p.1.2.1)) (ask (V.ja t.1 (da (Oa t.2.2 (fa t.1) (true,(gx t.2.2 (fa t.1) (false,false)).2)))) (ki ((Ea (t.1+(1:Int))),(Oa t.2.1 (fa t.1) true),(Oa (Oa t.2.2 (fa t.1) (true,(gx t.2.2 (fa t.1) (false,false)).2)) (fa t.1) ((gx (Oa t.2.2 (fa t.1) (true,(gx t.2.2 (fa t.1) (false,false)).2)) (fa t.1) (false,false)).1,(gx p.1.2.1 (fa t.1) (false,false)).2)))))))))
  (ask (V.ja t.1 (da p.1.2.1)) (ask (V.ja t.1 (da t.2.2)) (ask (V.ja t.1 (da p.2.2.1)) (cond (gx p.2.2.1 (fa t.1) (false,false)).2
  (ask (V.ja t.1 (da (Oa t.2.2 (fa t.1) ((gx p.1.2.1 (fa t.1) (false,false)).1,(gx t.2.2 (fa t.1) (false,false)).2)))) (ki ((Ea (t.1+(1:Int))),(Oa t.2.1 (fa t.1) true),(Oa (Oa t.2.2 (fa t.1) ((gx p.1.2.1 (fa t.1) (false,false)).1,(gx t.2.2 (fa t.1) (false,false)).2)) (fa t.1) ((gx (Oa t.2.2 (fa t.1) ((gx p.1.2.1 (fa t.1) (false,false)).1,(gx t.2.2 (fa t.1) (false,false)).2)) (fa t.1) (false,false)).1,true)))))
  (ask (V.ja t.1 (da p.1.2.1)) (ask (V.ja t.1 (da (Oa t.2.2 (fa t.1) ((gx p.1.2.1 (fa t.1) (false,false)).1,(gx t.2.2 (fa t.1) (false,false)).2)))) (ki ((Ea (t.1+(1:Int))),(Oa t.2.1 (fa t.1) true),(Oa (Oa t.2.2 (fa t.1) ((gx p.1.2.1 (fa t.1) (false,false)).1,(gx t.2.2 (fa t.1) (false,false)).2)) (fa t.1) ((gx (Oa t.2.2 (fa t.1) ((gx p.1.2.1 (fa t.1) (false,false)).1,(gx t.2.2 (fa t.1) (false,false)).2)) (fa t.1) (false,false)).1,(gx p.1.2.1 (fa t.1) (false,false)).2)))))))))))))
  (ask (V.ja t.1 (da p.1.1)) (ask (V.ja t.1 (da t.2.1)) (ask (V.ja t.1 (da p.2.2.1)) (cond (gx p.2.2.1 (fa t.1) (false,false)).1
  (ask (V.ja t.1 (da t.2.2)) (ask (V.ja t.1 (da p.2.2.1)) (cond (gx p.2.2.1 (fa t.1) (false,false)).2
  (ask (V.ja t.1 (da (Oa t.2.2 (fa t.1) (true,(gx t.2.2 (fa t.1) (false,false)).2)))) (ki ((Ea (t.1+(1:Int))),(Oa t.2.1 (fa t.1) (gx p.1.1 (fa t.1) false)),(Oa (Oa t.2.2 (fa t.1) (true,(gx t.2.2 (fa t.1) (false,false)).2)) (fa t.1) ((gx (Oa t.2.2 (fa t.1) (true,(gx t.2.2 (fa t.1) (false,false)).2)) (fa t.1) (false,false)).1,true)))))
  (ask (V.ja t.1 (da p.1.2.1)) (ask (V.ja t.1 (da (Oa t.2.2 (fa t.1) (true,(gx t.2.2 (fa t.1) (false,false)).2)))) (ki ((Ea (t.1+(1:Int))),(Oa t.2.1 (fa t.1) (gx p.1.1 (fa t.1) false)),(Oa (Oa t.2.2 (fa t.1) (true,(gx t.2.2 (fa t.1) (false,false)).2)) (fa t.1) ((gx (Oa t.2.2 (fa t.1) (true,(gx t.2.2 (fa t.1) (false,false)).2)) (fa t.1) (false,false)).1,(gx p.1.2.1 (fa t.1) (false,false)).2)))))))))
  (ask (V.ja t.1 (da p.1.2.1)) (ask (V.ja t.1 (da t.2.2)) (ask (V.ja t.1 (da p.2.2.1)) (cond (gx p.2.2.1 (fa t.1) (false,false)).2
  (ask (V.ja t.1 (da (Oa t.2.2 (fa t.1) ((gx p.1.2.1 (fa t.1) (false,false)).1,(gx t.2.2 (fa t.1) (false,false)).2)))) (ki ((Ea (t.1+(1:Int))),(Oa t.2.1 (fa t.1) (gx p.1.1 (fa t.1) false)),(Oa (Oa t.2.2 (fa t.1) ((gx p.1.2.1 (fa t.1) (false,false)).1,(gx t.2.2 (fa t.1) (false,false)).2)) (fa t.1) ((gx (Oa t.2.2 (fa t.1) ((gx p.1.2.1 (fa t.1) (false,false)).1,(gx t.2.2 (fa t.1) (false,false)).2)) (fa t.1) (false,false)).1,true)))))
  (ask (V.ja t.1 (da p.1.2.1)) (ask (V.ja t.1 (da (Oa t.2.2 (fa t.1) ((gx p.1.2.1 (fa t.1) (false,false)).1,(gx t.2.2 (fa t.1) (false,false)).2)))) (ki ((Ea (t.1+(1:Int))),(Oa t.2.1 (fa t.1) (gx p.1.1 (fa t.1) false)),(Oa (Oa t.2.2 (fa t.1) ((gx p.1.2.1 (fa t.1) (false,false)).1,(gx t.2.2 (fa t.1) (false,false)).2)) (fa t.1) ((gx (Oa t.2.2 (fa t.1) ((gx p.1.2.1 (fa t.1) (false,false)).1,(gx t.2.2 (fa t.1) (false,false)).2)) (fa t.1) (false,false)).1,(gx p.1.2.1 (fa t.1) (false,false)).2))))))))))))))))
  (ke ((t.2.1,t.2.2)))
 o:=fun Z p e K=>so K (.exit 0) ⟨[(2,.loc 0 0),(3,.loc 1 0),(4,.loc 2 0),(5,.loc 3 0)],[(cL [(.all 0),(.all 1),(.all 2)]),Cd,(cL [.Ya,.Ya,.Ya]),(cL [(.all 3),(.all 4),.Ya])],[.cells .bool,.cells (.pair .bool .bool),.cells ya,.cells .bool,.cells (.pair .bool .bool)],0,3⟩ ((),(((),(),(),()),(p.1.1,p.1.2.1,p.1.2.2,()),((),(),(),()),((),(),(),()),()),p.2.1,p.2.2.1,p.t3,e.1,e.2,())
 Kd:=⟨[2,3,4,5,6],[],[],[]⟩
 pe:=[(.exit 0,⟨[2,3,4,5],[],[],[]⟩)]
def Zo:LD ((Pa×Pa)×(Y53)) (Int×(List za)) ((List za))where
 sk:=⟨[(2,.loc 0 0),(3,.loc 1 0),(4,.loc 2 0),(5,.loc 3 0),(7,.i)],[(cL [(.all 0),(.all 1),(.all 2)]),Cd,(cL [.Ya,.Ya,.Ya]),(cL [(.all 3),(.all 4),(.all 5)])],[.cells .bool,.cells (.pair .bool .bool),.cells ya,.cells .bool,.cells (.pair .bool .bool),.cells ya],0,3⟩
 p:=fun u=>(((q3 u.2.1.2.1),(q3 u.2.2)),u.t5.1,u.t6.1)
 t:=fun u=>(u.1.1,u.t7.1)
 n:=fun p t=>((t.1,()),(((),(),(),()),(p.1.1.1,p.1.1.2.1,p.1.1.2.2,()),((),(),(),()),((),(),(),()),()),p.1.2.1,p.1.2.2.1,p.1.t3,p.2.1,p.2.2,t.2,())
 st:=fun Y p t ki ke=>cond (decide (t.1<(nt (da p.1.2.2.2))))
  (ask (V.ja t.1 (da p.1.2.2.2)) ((uz ((gx p.1.2.2.2 (fa t.1) vb),t.2)).bind fun r1=>
  ki ((Ea (t.1+(1:Int))),r1)))
  (ke (t.2))
 o:=fun Z p e K=>so K (.exit 2) ⟨[(3,.loc 0 0),(4,.loc 1 0),(5,.loc 2 0)],[Cd,(cL [.Ya,.Ya,.Ya]),(cL [(.all 3),(.all 4),(.all 5)])],[.cells .bool,.cells (.pair .bool .bool),.cells ya,.cells .bool,.cells (.pair .bool .bool),.cells ya],0,3⟩ ((),((p.1.1.1,p.1.1.2.1,p.1.1.2.2,()),((),(),(),()),((),(),(),()),()),p.1.2.1,p.1.2.2.1,p.1.t3,p.2.1,p.2.2,e,())
 Kd:=⟨[2,3,4,5,7],[],[(3,[.any,.any,(.own ya)])],[]⟩
 pe:=[(.exit 2,⟨[3,4,5],[],[],[]⟩)]
def Ck:LD ((Pa×Pa)×(Y53)) (Int×(List za)) ((List za))where
 sk:=⟨[(3,.loc 0 0),(4,.loc 1 0),(5,.loc 2 0),(8,.i)],[Cd,(cL [.Ya,.Ya,.Ya]),(cL [(.all 3),(.all 4),(.all 5)])],[.cells .bool,.cells (.pair .bool .bool),.cells ya,.cells .bool,.cells (.pair .bool .bool),.cells ya],0,3⟩
 p:=fun u=>(((q3 u.2.1.1),(q3 u.2.2)),u.t5.1,u.t6.1)
 t:=fun u=>(u.1.1,u.t7.1)
 n:=fun p t=>((t.1,()),((p.1.1.1,p.1.1.2.1,p.1.1.2.2,()),((),(),(),()),((),(),(),()),()),p.1.2.1,p.1.2.2.1,p.1.t3,p.2.1,p.2.2,t.2,())
 st:=fun Y p t ki ke=>cond (decide (t.1<(nt (da p.1.1.2.2))))
  (ask (V.ja t.1 (da p.1.1.2.2)) ((uz ((gx p.1.1.2.2 (fa t.1) vb),t.2)).bind fun r1=>
  ki ((Ea (t.1+(1:Int))),r1)))
  (ke (t.2))
 o:=fun Z p e K=>so K (.exit 4) ⟨[(4,.loc 0 0),(5,.loc 1 0)],[(cL [.Ya,.Ya,.Ya]),(cL [(.all 3),(.all 4),(.all 5)])],[.cells .bool,.cells (.pair .bool .bool),.cells ya,.cells .bool,.cells (.pair .bool .bool),.cells ya],0,3⟩ ((),(((),(),(),()),((),(),(),()),()),p.1.2.1,p.1.2.2.1,p.1.t3,p.2.1,p.2.2,e,())
 Kd:=⟨[3,4,5,8],[],[],[]⟩
 pe:=[(.exit 4,⟨[4,5],[],[],[]⟩)]
def wQ{X:Type}(a:E8)(K:Y3->Option X):Option X:=
 ask (decide (0<=(nt (da a.2.1)))&&decide ((nt (da a.2.1))<=(nt (da a.2.1)))&&decide (1 * (nt (da a.2.1))<=70368744177664)&&decide ((nt (da a.2.1))<9223372036854775808)) (ask (decide (0<=(nt (da a.2.2.1)))&&decide ((nt (da a.2.2.1))<=(nt (da a.2.2.1)))&&decide (2 * (nt (da a.2.2.1))<=70368744177664)&&decide ((nt (da a.2.2.1))<9223372036854775808)) ((Ia (Zm.m a) (0,(Ba (fa (nt (da a.2.1))) (false:Bool)),(Ba (fa (nt (da a.2.2.1))) ((false,false):(Bool×Bool))))).bind fun e1=>
 (Ia (Zo.m (a,e1)) (0,[])).bind fun e2=>
 (Ia (Ck.m (a,e1)) (0,e2)).bind fun e3=>
 K (e1.1,e1.2,e3)))
def xz:=fun a=>wQ a some
def qad:Spec:=w_.sp xz
noncomputable def vQ:Env:=eE [] (mb [(63,sZ)]) (qL 3 Zm.q (qL 9 Zo.q (qL 13 Ck.q qN)))
theorem zT:LS C vQ true [2,3,4,5] 112 (.loop (pc [1,1,0,1,0,0] Tryz.f35)):=fun hc=>
 lO hc Zm (by intros;simp only[Zm,LD.m,nn])
theorem yT:LS C vQ true [2,3,4,5] 112 (.loop (pc [1,1,1,0,1,0,0] Tryz.f35)):=fun hc=>
 lO hc Zo (by intros;simp only[Zo,LD.m,nn])
theorem yN:LS C vQ true [2,3,4,5] 112 (.loop (pc [1,1,1,1,0,1,0,0] Tryz.f35)):=fun hc=>
 lO hc Ck (by intros;simp only[Ck,LD.m,nn])
theorem rad:OK (2) 35 (w_.sp xz):=
 fO (d:=1) (env:=vQ) (Da (cc tZ cn)) (fn:=Tryz.f35) (mc:=@wQ) (by intros;simp only[xz,wQ,nn]) (Fa:=[2,3,4,5]) (sh:=(.agg [(.own .bool),(.own (.pair .bool .bool)),(.own ya)])) (hl:=fun hc=>(nc (by kernel_rfl) (Va (zT hc) (Va (yT hc) (Va (yN hc) Mb)))))
def R_:FS (Y37) (Bool)where
 sk:=⟨(cL [(.agg (cL [(.all 0),(.all 1),(.all 2)])),(.agg (cL [(.all 3),(.all 4),(.all 5)]))]),[.cells .bool,.cells (.pair .bool .bool),.cells ya,.cells .bool,.cells (.pair .bool .bool),.cells ya],0⟩
 a:=fun u=>(r5 u.2 u.t6.1)
 o:=fun Z a r K=>kv K (.bool) [.cells .bool,.cells (.pair .bool .bool),.cells ya,.cells .bool,.cells (.pair .bool .bool),.cells ya] 0 r (r5 a (a.t5,()))
def kn:LD (((List Bool)×(Y38))) (Int) ((Unit) ⊕ (Unit))where
 sk:=⟨[(2,.loc 0 0),(3,.loc 1 0),(5,.i)],[(cL [(.all 0),(.all 1),(.all 2)]),(cL [(.all 3),(.all 4),(.all 5)])],[.cells .bool,.cells (.pair .bool .bool),.cells ya,.cells .bool,.cells (.pair .bool .bool),.cells ya],0,6⟩
 p:=fun u=>(q6 u.2.2)
 t:=fun u=>u.1.1
 n:=fun p t=>((t,()),(((),(),(),()),((),(),(),()),()),(r5 p (p.t5,())))
 st:=fun Y p t ki ke=>cond (decide (t<(nt (da p.1))))
  (ask (V.ja t (da p.1)) (ask (V.ja t (da p.2.2.2.1)) (cond (!((gx p.1 (fa t) false)==(gx p.2.2.2.1 (fa t) false)))
  (ke (.inl ()))
  (ask (V.ja t (da p.2.1)) (ask (V.ja t (da p.2.2.2.2.1)) (cond (!(((gx p.2.1 (fa t) (false,false)).1==(gx p.2.2.2.2.1 (fa t) (false,false)).1)&&(((gx p.2.1 (fa t) (false,false)).2==(gx p.2.2.2.2.1 (fa t) (false,false)).2)&&true)))
  (ke (.inl ()))
  (ki ((Ea (t+(1:Int)))))))))))
  (ke (.inr (())))
 o:=fun Z p e K=>Sum.elim (fun e=>so K (.ret) ⟨[(4,.v .bool)],[],[.cells .bool,.cells (.pair .bool .bool),.cells ya,.cells .bool,.cells (.pair .bool .bool),.cells ya],0,6⟩ ((false,()),(),(r5 p (p.t5,())))) (fun e=>so K (.exit 0) ⟨[(2,.loc 0 0),(3,.loc 1 0)],[(cL [(.all 0),(.all 1),(.all 2)]),(cL [(.all 3),(.all 4),(.all 5)])],[.cells .bool,.cells (.pair .bool .bool),.cells ya,.cells .bool,.cells (.pair .bool .bool),.cells ya],0,6⟩ ((),(((),(),(),()),((),(),(),()),()),(r5 p (p.t5,())))) e
 Kd:=⟨[2,3,5],[],[],[]⟩
 pe:=[(.ret,⟨[4],[],[],[]⟩),(.exit 0,⟨[2,3],[],[],[]⟩)]
def jn:LD (((List Bool)×(Y38))) (Int) ((Unit) ⊕ (Unit))where
 sk:=⟨[(2,.loc 0 0),(3,.loc 1 0),(6,.i)],[(cL [(.all 0),(.all 1),(.all 2)]),(cL [(.all 3),(.all 4),(.all 5)])],[.cells .bool,.cells (.pair .bool .bool),.cells ya,.cells .bool,.cells (.pair .bool .bool),.cells ya],0,6⟩
 p:=fun u=>(q6 u.2.2)
 t:=fun u=>u.1.1
 n:=fun p t=>((t,()),(((),(),(),()),((),(),(),()),()),(r5 p (p.t5,())))
 st:=fun Y p t ki ke=>cond (decide (t<(nt (da p.2.2.1))))
  (ask (V.ja t (da p.2.2.1)) (ask (V.ja t (da p.2.2.2.2.2)) (cond (!((decide ((gx p.2.2.1 (fa t) vb).1=(gx p.2.2.2.2.2 (fa t) vb).1))&&((decide ((gx p.2.2.1 (fa t) vb).2=(gx p.2.2.2.2.2 (fa t) vb).2))&&true)))
  (ke (.inl ()))
  (ki ((Ea (t+(1:Int))))))))
  (ke (.inr (())))
 o:=fun Z p e K=>Sum.elim (fun e=>so K (.ret) ⟨[(4,.v .bool)],[],[.cells .bool,.cells (.pair .bool .bool),.cells ya,.cells .bool,.cells (.pair .bool .bool),.cells ya],0,6⟩ ((false,()),(),(r5 p (p.t5,())))) (fun e=>so K (.exit 2) ⟨[],[],[.cells .bool,.cells (.pair .bool .bool),.cells ya,.cells .bool,.cells (.pair .bool .bool),.cells ya],0,6⟩ ((),(),(r5 p (p.t5,())))) e
 Kd:=⟨[2,3,6],[],[],[]⟩
 pe:=[(.ret,⟨[4],[],[],[]⟩),(.exit 2,⟨[],[],[],[]⟩)]
def TQ{X:Type}(a:Y37)(K:Bool->Option X):Option X:=
 cond (!(decide ((nt (da a.1))=(nt (da a.2.2.2.1)))))
 (K false)
 (cond (!(decide ((nt (da a.2.1))=(nt (da a.2.2.2.2.1)))))
 (K false)
 (cond (!(decide ((nt (da a.2.2.1))=(nt (da a.2.2.2.2.2)))))
 (K false)
 ((Ia (kn.m a) 0).bind fun e1=>
 Sum.elim (fun e2=>K false)
 (fun e3=>(Ia (jn.m a) 0).bind fun e4=>
 Sum.elim (fun e5=>K false)
 (fun e6=>K true) e4) e1)))
def UF:=fun a=>TQ a some
def eae:Spec:=R_.sp UF
noncomputable def O1:Env:=eE [] (mb []) (qL 4 kn.q (qL 9 jn.q qN))
theorem sU:LS C O1 true [2,3] 81 (.loop (pc [1,1,0,1,0,0] Tryz.f13)):=fun hc=>
 lO hc kn (by intros;simp only[kn,LD.m,nn])
theorem rU:LS C O1 true [2,3] 81 (.loop (pc [1,1,1,0,1,0,0] Tryz.f13)):=fun hc=>
 lO hc jn (by intros;simp only[jn,LD.m,nn])
theorem fae:OK (1) 13 (R_.sp UF):=
 fO (d:=0) (env:=O1) (Da cn) (fn:=Tryz.f13) (mc:=@TQ) (by intros;simp only[UF,TQ,nn]) (Fa:=[2,3]) (hl:=fun hc=>(nc (by kernel_rfl) (Va (sU hc) (Va (rU hc) Mb))))
end
end Go.U
end
