/- The functions of the program as Lean functions, and that the evaluator says so. -/
import Derived.Test.YtjenflkegbmkkaaGreatDoorC10
set_option linter.unusedVariables false
set_option linter.unusedSimpArgs false
set_option linter.unusedSectionVars false
open ByteArray renaming size→za
open Int renaming toNat→fa
open List renaming length→da,set→Qa,replicate→Ca
section
set_option maxRecDepth 100000
namespace Go.U
open Go Go.Proofs
noncomputable section
variable {C:V.Callee}
def l9:FS (Y27) ((List Aa))where
 sk:=⟨(cL [(.all 0),(.agg Gg)]),[.cells ya],0⟩
 a:=fun u=>((u.1.2.1.1,u.1.2.1.2.1),u.2.1)
 o:=fun Z a r K=>kv K (.all 1) [.cells ya,.cells ya] 0 () (a.2,r,())
def Bo:LD ((Y27)) (Bool×Int×(List Aa)) (Bool×(List Aa))where
 sk:=⟨[(0,.v (.all 0)),(3,.loc 0 0),(5,.v (.all 1)),(6,.v .bool),(7,.i)],[Gg],[.cells ya,.cells ya],0,1⟩
 p:=fun u=>((u.2.1.1.1,u.2.1.1.2.1),u.2.2.1)
 t:=fun u=>(u.1.2.2.1,u.1.t3.1,u.t3.1)
 n:=fun p t=>(((),(),t.1,t.2.1,()),((p.1.1,p.1.2,()),()),p.2,t.2.2,())
 st:=fun Y p t ki ke=>cond (decide (t.2.1<(nt (da p.2))))
  (ask (V.ja t.2.1 (da p.2)) (cond (decide (p.1.1<(gx p.2 (fa t.2.1) Fb).1))
  (cond (!t.1)
  (ask (decide (((da t.2.2)+(da ([p.1]:List Aa))) * 16<=70368744177664)&&decide (((da t.2.2)+(da ([p.1]:List Aa)))<9223372036854775808)) (ask (V.ja t.2.1 (da p.2)) (ask (decide (((da (t.2.2++([p.1]:List Aa)))+(da ([(gx p.2 (fa t.2.1) Fb)]:List Aa))) * 16<=70368744177664)&&decide (((da (t.2.2++([p.1]:List Aa)))+(da ([(gx p.2 (fa t.2.1) Fb)]:List Aa)))<9223372036854775808)) (ki (true,(Ea (t.2.1+(1:Int))),((t.2.2++([p.1]:List Aa))++([(gx p.2 (fa t.2.1) Fb)]:List Aa)))))))
  (cond t.1
  (ask (V.ja t.2.1 (da p.2)) (ask (decide (((da t.2.2)+(da ([(gx p.2 (fa t.2.1) Fb)]:List Aa))) * 16<=70368744177664)&&decide (((da t.2.2)+(da ([(gx p.2 (fa t.2.1) Fb)]:List Aa)))<9223372036854775808)) (ki (true,(Ea (t.2.1+(1:Int))),(t.2.2++([(gx p.2 (fa t.2.1) Fb)]:List Aa))))))
  (ask (V.ja t.2.1 (da p.2)) (ask (V.ja t.2.1 (da p.2)) (ask (decide (((da t.2.2)+(da ([(gx p.2 (fa t.2.1) Fb)]:List Aa))) * 16<=70368744177664)&&decide (((da t.2.2)+(da ([(gx p.2 (fa t.2.1) Fb)]:List Aa)))<9223372036854775808)) (ki (((decide ((gx p.2 (fa t.2.1) Fb).1=p.1.1))&&((decide ((gx p.2 (fa t.2.1) Fb).2=p.1.2))&&true)),(Ea (t.2.1+(1:Int))),(t.2.2++([(gx p.2 (fa t.2.1) Fb)]:List Aa)))))))))
  (ask (V.ja t.2.1 (da p.2)) (cond (decide ((gx p.2 (fa t.2.1) Fb).1=p.1.1))
  (ask (V.ja t.2.1 (da p.2)) (cond (decide (p.1.2<(gx p.2 (fa t.2.1) Fb).2))
  (cond (!t.1)
  (ask (decide (((da t.2.2)+(da ([p.1]:List Aa))) * 16<=70368744177664)&&decide (((da t.2.2)+(da ([p.1]:List Aa)))<9223372036854775808)) (ask (V.ja t.2.1 (da p.2)) (ask (decide (((da (t.2.2++([p.1]:List Aa)))+(da ([(gx p.2 (fa t.2.1) Fb)]:List Aa))) * 16<=70368744177664)&&decide (((da (t.2.2++([p.1]:List Aa)))+(da ([(gx p.2 (fa t.2.1) Fb)]:List Aa)))<9223372036854775808)) (ki (true,(Ea (t.2.1+(1:Int))),((t.2.2++([p.1]:List Aa))++([(gx p.2 (fa t.2.1) Fb)]:List Aa)))))))
  (cond t.1
  (ask (V.ja t.2.1 (da p.2)) (ask (decide (((da t.2.2)+(da ([(gx p.2 (fa t.2.1) Fb)]:List Aa))) * 16<=70368744177664)&&decide (((da t.2.2)+(da ([(gx p.2 (fa t.2.1) Fb)]:List Aa)))<9223372036854775808)) (ki (true,(Ea (t.2.1+(1:Int))),(t.2.2++([(gx p.2 (fa t.2.1) Fb)]:List Aa))))))
  (ask (V.ja t.2.1 (da p.2)) (ask (V.ja t.2.1 (da p.2)) (ask (decide (((da t.2.2)+(da ([(gx p.2 (fa t.2.1) Fb)]:List Aa))) * 16<=70368744177664)&&decide (((da t.2.2)+(da ([(gx p.2 (fa t.2.1) Fb)]:List Aa)))<9223372036854775808)) (ki (((decide ((gx p.2 (fa t.2.1) Fb).1=p.1.1))&&((decide ((gx p.2 (fa t.2.1) Fb).2=p.1.2))&&true)),(Ea (t.2.1+(1:Int))),(t.2.2++([(gx p.2 (fa t.2.1) Fb)]:List Aa)))))))))
  (cond t.1
  (ask (V.ja t.2.1 (da p.2)) (ask (decide (((da t.2.2)+(da ([(gx p.2 (fa t.2.1) Fb)]:List Aa))) * 16<=70368744177664)&&decide (((da t.2.2)+(da ([(gx p.2 (fa t.2.1) Fb)]:List Aa)))<9223372036854775808)) (ki (true,(Ea (t.2.1+(1:Int))),(t.2.2++([(gx p.2 (fa t.2.1) Fb)]:List Aa))))))
  (ask (V.ja t.2.1 (da p.2)) (ask (V.ja t.2.1 (da p.2)) (ask (decide (((da t.2.2)+(da ([(gx p.2 (fa t.2.1) Fb)]:List Aa))) * 16<=70368744177664)&&decide (((da t.2.2)+(da ([(gx p.2 (fa t.2.1) Fb)]:List Aa)))<9223372036854775808)) (ki (((decide ((gx p.2 (fa t.2.1) Fb).1=p.1.1))&&((decide ((gx p.2 (fa t.2.1) Fb).2=p.1.2))&&true)),(Ea (t.2.1+(1:Int))),(t.2.2++([(gx p.2 (fa t.2.1) Fb)]:List Aa))))))))))
  (cond t.1
  (ask (V.ja t.2.1 (da p.2)) (ask (decide (((da t.2.2)+(da ([(gx p.2 (fa t.2.1) Fb)]:List Aa))) * 16<=70368744177664)&&decide (((da t.2.2)+(da ([(gx p.2 (fa t.2.1) Fb)]:List Aa)))<9223372036854775808)) (ki (true,(Ea (t.2.1+(1:Int))),(t.2.2++([(gx p.2 (fa t.2.1) Fb)]:List Aa))))))
  (ask (V.ja t.2.1 (da p.2)) (ask (V.ja t.2.1 (da p.2)) (ask (decide (((da t.2.2)+(da ([(gx p.2 (fa t.2.1) Fb)]:List Aa))) * 16<=70368744177664)&&decide (((da t.2.2)+(da ([(gx p.2 (fa t.2.1) Fb)]:List Aa)))<9223372036854775808)) (ki (((decide ((gx p.2 (fa t.2.1) Fb).1=p.1.1))&&((decide ((gx p.2 (fa t.2.1) Fb).2=p.1.2))&&true)),(Ea (t.2.1+(1:Int))),(t.2.2++([(gx p.2 (fa t.2.1) Fb)]:List Aa))))))))))))
  (ke ((t.1,t.2.2)))
 o:=fun Z p e K=>so K (.exit 0) ⟨[(3,.loc 0 0),(5,.v (.all 1)),(6,.v .bool)],[Gg],[.cells ya,.cells ya],0,1⟩ (((),e.1,()),((p.1.1,p.1.2,()),()),p.2,e.2,())
 Dd:=⟨[0,3,5,6,7],[(5,(.own ya))],[],[]⟩
 pe:=[(.exit 0,⟨[3,5,6],[],[],[]⟩)]
def kP{X:Type}(a:Y27)(K:(List Aa)->Option X):Option X:=
 (Ma (Bo.m a) (false,0,[])).bind fun e1=>
 cond (!e1.1)
 (ask (decide (((da e1.2)+(da ([a.1]:List Aa))) * 16<=70368744177664)&&decide (((da e1.2)+(da ([a.1]:List Aa)))<9223372036854775808)) (K (e1.2++([a.1]:List Aa))))
 (K e1.2)
def gz:=fun a=>kP a some
def wY:Spec:=l9.sp gz
noncomputable def n9:Env:=eE [] (yb []) (qL 4 Bo.q qN)
theorem AS:LS C n9 true [3] 75 (.loop (pc [1,1,1,0,1,0,0] Tryz.f63)):=fun hc=>
 lO hc Bo (by intros;simp only[Bo,LD.m,nn])
theorem xY:OK (1) 63 (l9.sp gz):=
 fO (d:=0) (env:=n9) (Da cn) (fn:=Tryz.f63) (mc:=@kP) (by intros;simp only[gz,kP,nn]) (Fa:=[3]) (sh:=(.own ya)) (hl:=fun hc=>(nc (by kernel_rfl) (Ua (AS hc) Kb)))
def b9:FS (Y4) (Y51)where
 sk:=⟨(cL [(.agg jb),(.lit .i),.i]),[],0⟩
 a:=fun u=>((q8 u.1.1),u.1.2.1,u.1.2.2.1)
 o:=fun Z a r K=>kv K (.Sc (cL [(.agg (cL [(.all 0),(.all 1),(.all 2)])),(.ptr 3 0)])) [.cells .bool,.cells (.pair .bool .bool),.cells ya,.Ya (cL [(.lit Qd),.i,.i,.i,(.lit Sd),(.lit Sf),(.lit Sd),(.lit ya),(.lit .i),.i,.i,(.all 4),.i,.i,.i,.i,.i,.Xa,(.all 5),(.all 6)]),.cells .i,.deep .i,.cells (.slice .i)] 0 (((),(),(),()),(),()) (r3 r ((r7 a.1 (a.1.t7,a.2.1,r.t3.1,r.t4.1,(),(r5 r.t5 ((),(),(),())))),r.t10.1,r.t11.1,r.t12,()))
def Ao:LD (Ga×Ga×(List Int)×(List Aa)) (Int×Int×Int×Int×Int×Int×Int×Int×Int×(List Int)×(List (List Int))×(List (List Int))×(List Bool)×(List (Bool×Bool))) (Int×Int×Int×Int×Int×Int×Int×(List Int)×(List (List Int))×(List (List Int))×(List Bool)×(List (Bool×Bool)))where
 sk:=⟨[(3,.loc 0 0),(6,.loc 1 0),(8,.loc 2 0),(9,.p 0 0),(10,.i),(11,.i)],[jb,(cL [.Xa,.Xa,.Xa]),(cL [(.all 4),(.all 5),(.all 6)])],[.Ya Md,.cells .i,.deep .i,.cells (.slice .i),.cells .bool,.cells (.pair .bool .bool),.cells ya],0,0⟩
 p:=fun u=>((q8 u.2.1.1),(q8 u.2.2.1),u.2.2.1.t8.1,u.t8.1)
 t:=fun u=>(u.1.2.1,u.1.2.2.1,u.2.2.1.t9.1,u.2.2.1.t10.1,(r5 u.2.2.1.t12 (r4 u.t3 u.t7.1)))
 n:=fun p t=>(((),t.1,t.2.1,()),((r7 p.1 (p.1.t7,())),((),(),(),()),((),(),(),()),()),(r7 p.2.1 (p.2.1.t7,p.2.2.1,t.2.2.1,t.t3.1,(),(r5 t.t4 ((),(),(),())))),(r4 t.t9 (t.t13,p.t3,())))
 st:=fun Y p t ki ke=>cond (decide (t.2.2.2.2.1=(0:Int)))
  (cond (decide ((0:Int)<=t.1))
  (ask (V.ja t.1 (da t.2.2.2.2.2.2.2.2.2.2.2.2.2)) (cond (decide (t.2.1=(0:Int)))
  (ask (V.ja t.2.2.2.1 (da t.2.2.2.2.2.2.2.2.2.2.2.2.1)) (ask (V.ja t.2.2.2.1 (da p.1.1)) (cond (decide ((gx p.1.1 (fa t.2.2.2.1) Ta).1=(15:Int)))
  (ask (V.ja t.2.2.2.1 (da p.1.1)) ((vh ((gx p.1.1 (fa t.2.2.2.1) Ta),p.2.1.1,p.2.1.2.1,p.2.1.2.2.1,p.2.1.2.2.2.1,p.2.1.2.2.2.2.1,p.2.1.2.2.2.2.2.1,p.2.1.2.2.2.2.2.2.1,p.2.1.2.2.2.2.2.2.2,p.2.2.1,t.2.2.1,t.2.2.2.1,t.2.2.2.2.1,t.2.2.2.2.2.1,t.2.2.2.2.2.2.1,t.2.2.2.2.2.2.2.1,t.2.2.2.2.2.2.2.2.1,t.2.2.2.2.2.2.2.2.2.1,t.2.2.2.2.2.2.2.2.2.2.1,t.2.2.2.2.2.2.2.2.2.2.2.1)).bind fun r1=>
  (wg (p.2.1.1,p.2.1.2.1,p.2.1.2.2.1,p.2.1.2.2.2.1,p.2.1.2.2.2.2.1,p.2.1.2.2.2.2.2.1,p.2.1.2.2.2.2.2.2.1,p.2.1.2.2.2.2.2.2.2,p.2.2.1,t.2.2.1,t.2.2.2.1,t.2.2.2.2.1,t.2.2.2.2.2.1,t.2.2.2.2.2.2.1,t.2.2.2.2.2.2.2.1,t.2.2.2.2.2.2.2.2.1,t.2.2.2.2.2.2.2.2.2.1,t.2.2.2.2.2.2.2.2.2.2.1,t.2.2.2.2.2.2.2.2.2.2.2.1)).bind fun r2=>
  Sum.elim (fun r3=>ki (t.2.2.2.1,r1,r3.1,t.2.2.2.1,r3.2.1,r3.2.2.1,r3.2.2.2.1,t.2.2.2.2.2.2.2.1,r3.2.2.2.2,t.2.2.2.2.2.2.2.2.2.1,t.2.2.2.2.2.2.2.2.2.2.1,t.2.2.2.2.2.2.2.2.2.2.2.1,(Qa t.2.2.2.2.2.2.2.2.2.2.2.2.1 (fa t.2.2.2.1) true),(Qa t.2.2.2.2.2.2.2.2.2.2.2.2.2 (fa t.1) (true,(gx t.2.2.2.2.2.2.2.2.2.2.2.2.2 (fa t.1) (false,false)).2))))
  (fun r4=>ki (t.2.2.2.1,r1,r4.1,r4.2.1,r4.2.2.1,t.2.2.2.2.2.1,t.2.2.2.2.2.2.1,r4.2.2.2.1,r4.2.2.2.2.1,r4.2.2.2.2.2.1,r4.2.2.2.2.2.2.1,r4.2.2.2.2.2.2.2,(Qa t.2.2.2.2.2.2.2.2.2.2.2.2.1 (fa t.2.2.2.1) true),(Qa t.2.2.2.2.2.2.2.2.2.2.2.2.2 (fa t.1) (true,(gx t.2.2.2.2.2.2.2.2.2.2.2.2.2 (fa t.1) (false,false)).2)))) r2))
  ((wg (p.2.1.1,p.2.1.2.1,p.2.1.2.2.1,p.2.1.2.2.2.1,p.2.1.2.2.2.2.1,p.2.1.2.2.2.2.2.1,p.2.1.2.2.2.2.2.2.1,p.2.1.2.2.2.2.2.2.2,p.2.2.1,t.2.2.1,t.2.2.2.1,t.2.2.2.2.1,t.2.2.2.2.2.1,t.2.2.2.2.2.2.1,t.2.2.2.2.2.2.2.1,t.2.2.2.2.2.2.2.2.1,t.2.2.2.2.2.2.2.2.2.1,t.2.2.2.2.2.2.2.2.2.2.1,t.2.2.2.2.2.2.2.2.2.2.2.1)).bind fun r5=>
  Sum.elim (fun r6=>ki (t.2.2.2.1,0,r6.1,t.2.2.2.1,r6.2.1,r6.2.2.1,r6.2.2.2.1,t.2.2.2.2.2.2.2.1,r6.2.2.2.2,t.2.2.2.2.2.2.2.2.2.1,t.2.2.2.2.2.2.2.2.2.2.1,t.2.2.2.2.2.2.2.2.2.2.2.1,(Qa t.2.2.2.2.2.2.2.2.2.2.2.2.1 (fa t.2.2.2.1) true),(Qa t.2.2.2.2.2.2.2.2.2.2.2.2.2 (fa t.1) (true,(gx t.2.2.2.2.2.2.2.2.2.2.2.2.2 (fa t.1) (false,false)).2))))
  (fun r7=>ki (t.2.2.2.1,0,r7.1,r7.2.1,r7.2.2.1,t.2.2.2.2.2.1,t.2.2.2.2.2.2.1,r7.2.2.2.1,r7.2.2.2.2.1,r7.2.2.2.2.2.1,r7.2.2.2.2.2.2.1,r7.2.2.2.2.2.2.2,(Qa t.2.2.2.2.2.2.2.2.2.2.2.2.1 (fa t.2.2.2.1) true),(Qa t.2.2.2.2.2.2.2.2.2.2.2.2.2 (fa t.1) (true,(gx t.2.2.2.2.2.2.2.2.2.2.2.2.2 (fa t.1) (false,false)).2)))) r5))))
  (cond (decide (t.2.1=(1:Int)))
  (ask (V.ja t.2.2.2.1 (da t.2.2.2.2.2.2.2.2.2.2.2.2.1)) (ask (V.ja t.2.2.2.1 (da p.1.1)) (cond (decide ((gx p.1.1 (fa t.2.2.2.1) Ta).1=(15:Int)))
  (ask (V.ja t.2.2.2.1 (da p.1.1)) ((vh ((gx p.1.1 (fa t.2.2.2.1) Ta),p.2.1.1,p.2.1.2.1,p.2.1.2.2.1,p.2.1.2.2.2.1,p.2.1.2.2.2.2.1,p.2.1.2.2.2.2.2.1,p.2.1.2.2.2.2.2.2.1,p.2.1.2.2.2.2.2.2.2,p.2.2.1,t.2.2.1,t.2.2.2.1,t.2.2.2.2.1,t.2.2.2.2.2.1,t.2.2.2.2.2.2.1,t.2.2.2.2.2.2.2.1,t.2.2.2.2.2.2.2.2.1,t.2.2.2.2.2.2.2.2.2.1,t.2.2.2.2.2.2.2.2.2.2.1,t.2.2.2.2.2.2.2.2.2.2.2.1)).bind fun r8=>
  (wg (p.2.1.1,p.2.1.2.1,p.2.1.2.2.1,p.2.1.2.2.2.1,p.2.1.2.2.2.2.1,p.2.1.2.2.2.2.2.1,p.2.1.2.2.2.2.2.2.1,p.2.1.2.2.2.2.2.2.2,p.2.2.1,t.2.2.1,t.2.2.2.1,t.2.2.2.2.1,t.2.2.2.2.2.1,t.2.2.2.2.2.2.1,t.2.2.2.2.2.2.2.1,t.2.2.2.2.2.2.2.2.1,t.2.2.2.2.2.2.2.2.2.1,t.2.2.2.2.2.2.2.2.2.2.1,t.2.2.2.2.2.2.2.2.2.2.2.1)).bind fun r9=>
  Sum.elim (fun Zh=>ki (t.2.2.2.1,r8,Zh.1,t.2.2.2.1,Zh.2.1,Zh.2.2.1,Zh.2.2.2.1,t.2.2.2.2.2.2.2.1,Zh.2.2.2.2,t.2.2.2.2.2.2.2.2.2.1,t.2.2.2.2.2.2.2.2.2.2.1,t.2.2.2.2.2.2.2.2.2.2.2.1,(Qa t.2.2.2.2.2.2.2.2.2.2.2.2.1 (fa t.2.2.2.1) true),(Qa t.2.2.2.2.2.2.2.2.2.2.2.2.2 (fa t.1) ((gx t.2.2.2.2.2.2.2.2.2.2.2.2.2 (fa t.1) (false,false)).1,true))))
  (fun Eg=>ki (t.2.2.2.1,r8,Eg.1,Eg.2.1,Eg.2.2.1,t.2.2.2.2.2.1,t.2.2.2.2.2.2.1,Eg.2.2.2.1,Eg.2.2.2.2.1,Eg.2.2.2.2.2.1,Eg.2.2.2.2.2.2.1,Eg.2.2.2.2.2.2.2,(Qa t.2.2.2.2.2.2.2.2.2.2.2.2.1 (fa t.2.2.2.1) true),(Qa t.2.2.2.2.2.2.2.2.2.2.2.2.2 (fa t.1) ((gx t.2.2.2.2.2.2.2.2.2.2.2.2.2 (fa t.1) (false,false)).1,true)))) r9))
  ((wg (p.2.1.1,p.2.1.2.1,p.2.1.2.2.1,p.2.1.2.2.2.1,p.2.1.2.2.2.2.1,p.2.1.2.2.2.2.2.1,p.2.1.2.2.2.2.2.2.1,p.2.1.2.2.2.2.2.2.2,p.2.2.1,t.2.2.1,t.2.2.2.1,t.2.2.2.2.1,t.2.2.2.2.2.1,t.2.2.2.2.2.2.1,t.2.2.2.2.2.2.2.1,t.2.2.2.2.2.2.2.2.1,t.2.2.2.2.2.2.2.2.2.1,t.2.2.2.2.2.2.2.2.2.2.1,t.2.2.2.2.2.2.2.2.2.2.2.1)).bind fun Z1=>
  Sum.elim (fun nU=>ki (t.2.2.2.1,0,nU.1,t.2.2.2.1,nU.2.1,nU.2.2.1,nU.2.2.2.1,t.2.2.2.2.2.2.2.1,nU.2.2.2.2,t.2.2.2.2.2.2.2.2.2.1,t.2.2.2.2.2.2.2.2.2.2.1,t.2.2.2.2.2.2.2.2.2.2.2.1,(Qa t.2.2.2.2.2.2.2.2.2.2.2.2.1 (fa t.2.2.2.1) true),(Qa t.2.2.2.2.2.2.2.2.2.2.2.2.2 (fa t.1) ((gx t.2.2.2.2.2.2.2.2.2.2.2.2.2 (fa t.1) (false,false)).1,true))))
  (fun mU=>ki (t.2.2.2.1,0,mU.1,mU.2.1,mU.2.2.1,t.2.2.2.2.2.1,t.2.2.2.2.2.2.1,mU.2.2.2.1,mU.2.2.2.2.1,mU.2.2.2.2.2.1,mU.2.2.2.2.2.2.1,mU.2.2.2.2.2.2.2,(Qa t.2.2.2.2.2.2.2.2.2.2.2.2.1 (fa t.2.2.2.1) true),(Qa t.2.2.2.2.2.2.2.2.2.2.2.2.2 (fa t.1) ((gx t.2.2.2.2.2.2.2.2.2.2.2.2.2 (fa t.1) (false,false)).1,true)))) Z1))))
  (none))))
  (ask (V.ja t.2.2.2.1 (da t.2.2.2.2.2.2.2.2.2.2.2.2.1)) (ask (V.ja t.2.2.2.1 (da p.1.1)) (cond (decide ((gx p.1.1 (fa t.2.2.2.1) Ta).1=(15:Int)))
  (ask (V.ja t.2.2.2.1 (da p.1.1)) ((vh ((gx p.1.1 (fa t.2.2.2.1) Ta),p.2.1.1,p.2.1.2.1,p.2.1.2.2.1,p.2.1.2.2.2.1,p.2.1.2.2.2.2.1,p.2.1.2.2.2.2.2.1,p.2.1.2.2.2.2.2.2.1,p.2.1.2.2.2.2.2.2.2,p.2.2.1,t.2.2.1,t.2.2.2.1,t.2.2.2.2.1,t.2.2.2.2.2.1,t.2.2.2.2.2.2.1,t.2.2.2.2.2.2.2.1,t.2.2.2.2.2.2.2.2.1,t.2.2.2.2.2.2.2.2.2.1,t.2.2.2.2.2.2.2.2.2.2.1,t.2.2.2.2.2.2.2.2.2.2.2.1)).bind fun bV=>
  (wg (p.2.1.1,p.2.1.2.1,p.2.1.2.2.1,p.2.1.2.2.2.1,p.2.1.2.2.2.2.1,p.2.1.2.2.2.2.2.1,p.2.1.2.2.2.2.2.2.1,p.2.1.2.2.2.2.2.2.2,p.2.2.1,t.2.2.1,t.2.2.2.1,t.2.2.2.2.1,t.2.2.2.2.2.1,t.2.2.2.2.2.2.1,t.2.2.2.2.2.2.2.1,t.2.2.2.2.2.2.2.2.1,t.2.2.2.2.2.2.2.2.2.1,t.2.2.2.2.2.2.2.2.2.2.1,t.2.2.2.2.2.2.2.2.2.2.2.1)).bind fun J7=>
  Sum.elim (fun W3=>ki (t.2.2.2.1,bV,W3.1,t.2.2.2.1,W3.2.1,W3.2.2.1,W3.2.2.2.1,t.2.2.2.2.2.2.2.1,W3.2.2.2.2,t.2.2.2.2.2.2.2.2.2.1,t.2.2.2.2.2.2.2.2.2.2.1,t.2.2.2.2.2.2.2.2.2.2.2.1,(Qa t.2.2.2.2.2.2.2.2.2.2.2.2.1 (fa t.2.2.2.1) true),t.2.2.2.2.2.2.2.2.2.2.2.2.2))
  (fun X1=>ki (t.2.2.2.1,bV,X1.1,X1.2.1,X1.2.2.1,t.2.2.2.2.2.1,t.2.2.2.2.2.2.1,X1.2.2.2.1,X1.2.2.2.2.1,X1.2.2.2.2.2.1,X1.2.2.2.2.2.2.1,X1.2.2.2.2.2.2.2,(Qa t.2.2.2.2.2.2.2.2.2.2.2.2.1 (fa t.2.2.2.1) true),t.2.2.2.2.2.2.2.2.2.2.2.2.2)) J7))
  ((wg (p.2.1.1,p.2.1.2.1,p.2.1.2.2.1,p.2.1.2.2.2.1,p.2.1.2.2.2.2.1,p.2.1.2.2.2.2.2.1,p.2.1.2.2.2.2.2.2.1,p.2.1.2.2.2.2.2.2.2,p.2.2.1,t.2.2.1,t.2.2.2.1,t.2.2.2.2.1,t.2.2.2.2.2.1,t.2.2.2.2.2.2.1,t.2.2.2.2.2.2.2.1,t.2.2.2.2.2.2.2.2.1,t.2.2.2.2.2.2.2.2.2.1,t.2.2.2.2.2.2.2.2.2.2.1,t.2.2.2.2.2.2.2.2.2.2.2.1)).bind fun r19=>
  Sum.elim (fun U3=>ki (t.2.2.2.1,0,U3.1,t.2.2.2.1,U3.2.1,U3.2.2.1,U3.2.2.2.1,t.2.2.2.2.2.2.2.1,U3.2.2.2.2,t.2.2.2.2.2.2.2.2.2.1,t.2.2.2.2.2.2.2.2.2.2.1,t.2.2.2.2.2.2.2.2.2.2.2.1,(Qa t.2.2.2.2.2.2.2.2.2.2.2.2.1 (fa t.2.2.2.1) true),t.2.2.2.2.2.2.2.2.2.2.2.2.2))
  (fun aV=>ki (t.2.2.2.1,0,aV.1,aV.2.1,aV.2.2.1,t.2.2.2.2.2.1,t.2.2.2.2.2.2.1,aV.2.2.2.1,aV.2.2.2.2.1,aV.2.2.2.2.2.1,aV.2.2.2.2.2.2.1,aV.2.2.2.2.2.2.2,(Qa t.2.2.2.2.2.2.2.2.2.2.2.2.1 (fa t.2.2.2.1) true),t.2.2.2.2.2.2.2.2.2.2.2.2.2)) r19)))))
  (ke ((t.2.2.1,t.2.2.2.1,t.2.2.2.2.1,t.2.2.2.2.2.1,t.2.2.2.2.2.2.1,t.2.2.2.2.2.2.2.1,t.2.2.2.2.2.2.2.2.1,t.2.2.2.2.2.2.2.2.2.1,t.2.2.2.2.2.2.2.2.2.2.1,t.2.2.2.2.2.2.2.2.2.2.2.1,t.2.2.2.2.2.2.2.2.2.2.2.2.1,t.2.2.2.2.2.2.2.2.2.2.2.2.2)))
 o:=fun Z p e K=>so K (.exit 0) ⟨[(6,.loc 0 0),(8,.loc 1 0),(9,.p 0 0)],[(cL [.Xa,.Xa,.Xa]),(cL [(.all 4),(.all 5),(.all 6)])],[.Ya Md,.cells .i,.deep .i,.cells (.slice .i),.cells .bool,.cells (.pair .bool .bool),.cells ya],0,0⟩ (((),()),(((),(),(),()),((),(),(),()),()),(r7 p.2.1 (p.2.1.t7,p.2.2.1,e.1,e.2.1,(),(r5 e.2.2 ((),(),(),())))),(r4 e.t7 (e.t11,p.t3,())))
 Dd:=⟨[3,6,8,9,10,11],[],[],[(0,[.any,.any,.any,.any,.any,.any,.any,.any,.any,.any,.any,.any,.any,.any,.any,.any,.any,.any,.any,(.own (.slice (.int .i64)))])]⟩
 pe:=[(.exit 0,⟨[6,8,9],[],[],[]⟩)]
def jP{X:Type}(a:Y4)(K:Y51->Option X):Option X:=
 (bC a.1).bind fun r1=>
 (bF (a.1,a.2.1,a.2.2)).bind fun r2=>
 (Ma (Ao.m (a.1,a.1,a.2.1,r1.2.2)) ((-1),0,a.2.2,0,0,0,0,0,0,r2.1,r2.2,[],r1.1,r1.2.1)).bind fun e3=>
 cond (decide (e3.2.2.1=(1:Int)))
 ((gz ((e3.2.2.2.1,e3.2.2.2.2.1),r1.2.2)).bind fun r4=>
 K (e3.2.2.2.2.2.2.2.2.2.2.1,e3.2.2.2.2.2.2.2.2.2.2.2,r4,e3.1,e3.2.1,e3.2.2.1,e3.2.2.2.1,e3.2.2.2.2.1,e3.2.2.2.2.2.1,e3.2.2.2.2.2.2.1,e3.2.2.2.2.2.2.2.1,e3.2.2.2.2.2.2.2.2.1,e3.2.2.2.2.2.2.2.2.2.1))
 (K (e3.2.2.2.2.2.2.2.2.2.2.1,e3.2.2.2.2.2.2.2.2.2.2.2,r1.2.2,e3.1,e3.2.1,e3.2.2.1,e3.2.2.2.1,e3.2.2.2.2.1,e3.2.2.2.2.2.1,e3.2.2.2.2.2.2.1,e3.2.2.2.2.2.2.2.1,e3.2.2.2.2.2.2.2.2.1,e3.2.2.2.2.2.2.2.2.2.1))
def gF:=fun a=>jP a some
def Qab:Spec:=b9.sp gF
noncomputable def j9:Env:=eE [] (yb [(15,dN),(99,jab),(100,PT),(101,NT),(63,wY)]) (qL 5 Ao.q qN)
theorem zS:LS C j9 true [3,6,8] 79 (.loop (pc [1,1,1,1,1,0,0,0] Tryz.f64)):=fun hc=>
 lO hc Ao (by intros;simp only[Ao,LD.m,nn])
theorem Rab:OK (3) 64 (b9.sp gF):=
 fO (d:=2) (env:=j9) (Da (cc eN (cc kab (cc QT (cc OT (cc xY cn)))))) (fn:=Tryz.f64) (mc:=@jP) (by intros;simp only[gF,jP,nn]) (Fa:=[3,6,8]) (sh:=(.Sc [(.agg [(.own .bool),(.own (.pair .bool .bool)),(.own ya)]),.any])) (hl:=fun hc=>(nc (by kernel_rfl) (Ua (zS hc) Kb)))
def Q9:FS (Y4) (vb)where
 sk:=⟨(cL [(.agg jb),(.lit .i),.i]),[],0⟩
 a:=fun u=>((q8 u.1.1),u.1.2.1,u.1.2.2.1)
 o:=fun Z a r K=>kv K (.agg Kd) [] 0 (r.1,r.2.1,r.2.2,()) ()
def DP{X:Type}(a:Y4)(K:vb->Option X):Option X:=
 (gF (a.1,a.2.1,a.2.2)).bind fun r1=>
 K (r1.1,(r1.2.1,r1.2.2.1))
def lF:=fun a=>DP a some
def qac:Spec:=Q9.sp lF
noncomputable def oah:Env:=eE [] (yb [(64,Qab)]) qN
theorem rac:OK (4) 36 (Q9.sp lF):=
 fO (d:=3) (env:=oah) (Da (cc Rab cn)) (fn:=Tryz.f36) (mc:=@DP) (by intros;simp only[lF,DP,nn]) (Fa:=[3,6,7]) (sh:=(.agg [(.lit .bool),(.lit (.pair .bool .bool)),(.lit ya)])) (fz:=true)
def R9:FS (p7) (Y3)where
 sk:=⟨(cL [(.agg (cL [(.all 0),(.all 1),(.all 2)])),(.agg Kd)]),[.cells .bool,.cells (.pair .bool .bool),.cells ya],0⟩
 a:=fun u=>((q3 u.1.2.1),u.2.1,u.2.2.1,u.t3.1)
 o:=fun Z a r K=>kv K (.agg (cL [(.all 3),(.all 4),(.all 5)])) [.cells .bool,.cells (.pair .bool .bool),.cells ya,.cells .bool,.cells (.pair .bool .bool),.cells ya] 0 ((),(),(),()) (a.2.1,a.2.2.1,a.t3,r.1,r.2.1,r.2.2,())
def Im:LD ((vb×vb)) (Y52) (Y53)where
 sk:=⟨[(2,.loc 0 0),(3,.loc 1 0),(4,.loc 2 0),(5,.loc 3 0),(6,.i)],[(cL [(.all 0),(.all 1),(.all 2)]),Kd,(cL [.Xa,.Xa,.Xa]),(cL [(.all 3),(.all 4),.Xa])],[.cells .bool,.cells (.pair .bool .bool),.cells ya,.cells .bool,.cells (.pair .bool .bool)],0,3⟩
 p:=fun u=>((q3 u.2.1.2.1),(q3 u.2.2))
 t:=fun u=>(u.1.1,u.t5.1,u.t6.1)
 n:=fun p t=>((t.1,()),(((),(),(),()),(p.1.1,p.1.2.1,p.1.2.2,()),((),(),(),()),((),(),(),()),()),p.2.1,p.2.2.1,p.t3,t.2.1,t.2.2,())
 st:=fun Y p t ki ke=>cond (decide (t.1<(nt (da p.2.1))))
  (ask (V.ja t.1 (da p.2.1)) (cond (gx p.2.1 (fa t.1) false)
  (ask (V.ja t.1 (da t.2.1)) (ask (V.ja t.1 (da p.2.2.1)) (cond (gx p.2.2.1 (fa t.1) (false,false)).1
  (ask (V.ja t.1 (da t.2.2)) (ask (V.ja t.1 (da p.2.2.1)) (cond (gx p.2.2.1 (fa t.1) (false,false)).2
  (ask (V.ja t.1 (da (Qa t.2.2 (fa t.1) (true,(gx t.2.2 (fa t.1) (false,false)).2)))) (ki ((Ea (t.1+(1:Int))),(Qa t.2.1 (fa t.1) true),(Qa (Qa t.2.2 (fa t.1) (true,(gx t.2.2 (fa t.1) (false,false)).2)) (fa t.1) ((gx (Qa t.2.2 (fa t.1) (true,(gx t.2.2 (fa t.1) (false,false)).2)) (fa t.1) (false,false)).1,true)))))
  (ask (V.ja t.1 (da p.1.2.1)) (ask (V.ja t.1 (da (Qa t.2.2 (fa t.1) (true,(gx t.2.2 (fa t.1) (false,false)).2)))) (ki ((Ea (t.1+(1:Int))),(Qa t.2.1 (fa t.1) true),(Qa (Qa t.2.2 (fa t.1) (true,(gx t.2.2 (fa t.1) (false,false)).2)) (fa t.1) ((gx (Qa t.2.2 (fa t.1) (true,(gx t.2.2 (fa t.1) (false,false)).2)) (fa t.1) (false,false)).1,(gx p.1.2.1 (fa t.1) (false,false)).2)))))))))
  (ask (V.ja t.1 (da p.1.2.1)) (ask (V.ja t.1 (da t.2.2)) (ask (V.ja t.1 (da p.2.2.1)) (cond (gx p.2.2.1 (fa t.1) (false,false)).2
  (ask (V.ja t.1 (da (Qa t.2.2 (fa t.1) ((gx p.1.2.1 (fa t.1) (false,false)).1,(gx t.2.2 (fa t.1) (false,false)).2)))) (ki ((Ea (t.1+(1:Int))),(Qa t.2.1 (fa t.1) true),(Qa (Qa t.2.2 (fa t.1) ((gx p.1.2.1 (fa t.1) (false,false)).1,(gx t.2.2 (fa t.1) (false,false)).2)) (fa t.1) ((gx (Qa t.2.2 (fa t.1) ((gx p.1.2.1 (fa t.1) (false,false)).1,(gx t.2.2 (fa t.1) (false,false)).2)) (fa t.1) (false,false)).1,true)))))
  (ask (V.ja t.1 (da p.1.2.1)) (ask (V.ja t.1 (da (Qa t.2.2 (fa t.1) ((gx p.1.2.1 (fa t.1) (false,false)).1,(gx t.2.2 (fa t.1) (false,false)).2)))) (ki ((Ea (t.1+(1:Int))),(Qa t.2.1 (fa t.1) true),(Qa (Qa t.2.2 (fa t.1) ((gx p.1.2.1 (fa t.1) (false,false)).1,(gx t.2.2 (fa t.1) (false,false)).2)) (fa t.1) ((gx (Qa t.2.2 (fa t.1) ((gx p.1.2.1 (fa t.1) (false,false)).1,(gx t.2.2 (fa t.1) (false,false)).2)) (fa t.1) (false,false)).1,(gx p.1.2.1 (fa t.1) (false,false)).2)))))))))))))
  (ask (V.ja t.1 (da p.1.1)) (ask (V.ja t.1 (da t.2.1)) (ask (V.ja t.1 (da p.2.2.1)) (cond (gx p.2.2.1 (fa t.1) (false,false)).1
  (ask (V.ja t.1 (da t.2.2)) (ask (V.ja t.1 (da p.2.2.1)) (cond (gx p.2.2.1 (fa t.1) (false,false)).2
  (ask (V.ja t.1 (da (Qa t.2.2 (fa t.1) (true,(gx t.2.2 (fa t.1) (false,false)).2)))) (ki ((Ea (t.1+(1:Int))),(Qa t.2.1 (fa t.1) (gx p.1.1 (fa t.1) false)),(Qa (Qa t.2.2 (fa t.1) (true,(gx t.2.2 (fa t.1) (false,false)).2)) (fa t.1) ((gx (Qa t.2.2 (fa t.1) (true,(gx t.2.2 (fa t.1) (false,false)).2)) (fa t.1) (false,false)).1,true)))))
  (ask (V.ja t.1 (da p.1.2.1)) (ask (V.ja t.1 (da (Qa t.2.2 (fa t.1) (true,(gx t.2.2 (fa t.1) (false,false)).2)))) (ki ((Ea (t.1+(1:Int))),(Qa t.2.1 (fa t.1) (gx p.1.1 (fa t.1) false)),(Qa (Qa t.2.2 (fa t.1) (true,(gx t.2.2 (fa t.1) (false,false)).2)) (fa t.1) ((gx (Qa t.2.2 (fa t.1) (true,(gx t.2.2 (fa t.1) (false,false)).2)) (fa t.1) (false,false)).1,(gx p.1.2.1 (fa t.1) (false,false)).2)))))))))
  (ask (V.ja t.1 (da p.1.2.1)) (ask (V.ja t.1 (da t.2.2)) (ask (V.ja t.1 (da p.2.2.1)) (cond (gx p.2.2.1 (fa t.1) (false,false)).2
  (ask (V.ja t.1 (da (Qa t.2.2 (fa t.1) ((gx p.1.2.1 (fa t.1) (false,false)).1,(gx t.2.2 (fa t.1) (false,false)).2)))) (ki ((Ea (t.1+(1:Int))),(Qa t.2.1 (fa t.1) (gx p.1.1 (fa t.1) false)),(Qa (Qa t.2.2 (fa t.1) ((gx p.1.2.1 (fa t.1) (false,false)).1,(gx t.2.2 (fa t.1) (false,false)).2)) (fa t.1) ((gx (Qa t.2.2 (fa t.1) ((gx p.1.2.1 (fa t.1) (false,false)).1,(gx t.2.2 (fa t.1) (false,false)).2)) (fa t.1) (false,false)).1,true)))))
  (ask (V.ja t.1 (da p.1.2.1)) (ask (V.ja t.1 (da (Qa t.2.2 (fa t.1) ((gx p.1.2.1 (fa t.1) (false,false)).1,(gx t.2.2 (fa t.1) (false,false)).2)))) (ki ((Ea (t.1+(1:Int))),(Qa t.2.1 (fa t.1) (gx p.1.1 (fa t.1) false)),(Qa (Qa t.2.2 (fa t.1) ((gx p.1.2.1 (fa t.1) (false,false)).1,(gx t.2.2 (fa t.1) (false,false)).2)) (fa t.1) ((gx (Qa t.2.2 (fa t.1) ((gx p.1.2.1 (fa t.1) (false,false)).1,(gx t.2.2 (fa t.1) (false,false)).2)) (fa t.1) (false,false)).1,(gx p.1.2.1 (fa t.1) (false,false)).2))))))))))))))))
  (ke ((t.2.1,t.2.2)))
 o:=fun Z p e K=>so K (.exit 0) ⟨[(2,.loc 0 0),(3,.loc 1 0),(4,.loc 2 0),(5,.loc 3 0)],[(cL [(.all 0),(.all 1),(.all 2)]),Kd,(cL [.Xa,.Xa,.Xa]),(cL [(.all 3),(.all 4),.Xa])],[.cells .bool,.cells (.pair .bool .bool),.cells ya,.cells .bool,.cells (.pair .bool .bool)],0,3⟩ ((),(((),(),(),()),(p.1.1,p.1.2.1,p.1.2.2,()),((),(),(),()),((),(),(),()),()),p.2.1,p.2.2.1,p.t3,e.1,e.2,())
 Dd:=⟨[2,3,4,5,6],[],[],[]⟩
 pe:=[(.exit 0,⟨[2,3,4,5],[],[],[]⟩)]
def Co:LD ((vb×vb)×(Y53)) (Int×(List Aa)) ((List Aa))where
 sk:=⟨[(2,.loc 0 0),(3,.loc 1 0),(4,.loc 2 0),(5,.loc 3 0),(7,.i)],[(cL [(.all 0),(.all 1),(.all 2)]),Kd,(cL [.Xa,.Xa,.Xa]),(cL [(.all 3),(.all 4),(.all 5)])],[.cells .bool,.cells (.pair .bool .bool),.cells ya,.cells .bool,.cells (.pair .bool .bool),.cells ya],0,3⟩
 p:=fun u=>(((q3 u.2.1.2.1),(q3 u.2.2)),u.t5.1,u.t6.1)
 t:=fun u=>(u.1.1,u.t7.1)
 n:=fun p t=>((t.1,()),(((),(),(),()),(p.1.1.1,p.1.1.2.1,p.1.1.2.2,()),((),(),(),()),((),(),(),()),()),p.1.2.1,p.1.2.2.1,p.1.t3,p.2.1,p.2.2,t.2,())
 st:=fun Y p t ki ke=>cond (decide (t.1<(nt (da p.1.2.2.2))))
  (ask (V.ja t.1 (da p.1.2.2.2)) ((gz ((gx p.1.2.2.2 (fa t.1) Fb),t.2)).bind fun r1=>
  ki ((Ea (t.1+(1:Int))),r1)))
  (ke (t.2))
 o:=fun Z p e K=>so K (.exit 2) ⟨[(3,.loc 0 0),(4,.loc 1 0),(5,.loc 2 0)],[Kd,(cL [.Xa,.Xa,.Xa]),(cL [(.all 3),(.all 4),(.all 5)])],[.cells .bool,.cells (.pair .bool .bool),.cells ya,.cells .bool,.cells (.pair .bool .bool),.cells ya],0,3⟩ ((),((p.1.1.1,p.1.1.2.1,p.1.1.2.2,()),((),(),(),()),((),(),(),()),()),p.1.2.1,p.1.2.2.1,p.1.t3,p.2.1,p.2.2,e,())
 Dd:=⟨[2,3,4,5,7],[],[(3,[.any,.any,(.own ya)])],[]⟩
 pe:=[(.exit 2,⟨[3,4,5],[],[],[]⟩)]
def jk:LD ((vb×vb)×(Y53)) (Int×(List Aa)) ((List Aa))where
 sk:=⟨[(3,.loc 0 0),(4,.loc 1 0),(5,.loc 2 0),(8,.i)],[Kd,(cL [.Xa,.Xa,.Xa]),(cL [(.all 3),(.all 4),(.all 5)])],[.cells .bool,.cells (.pair .bool .bool),.cells ya,.cells .bool,.cells (.pair .bool .bool),.cells ya],0,3⟩
 p:=fun u=>(((q3 u.2.1.1),(q3 u.2.2)),u.t5.1,u.t6.1)
 t:=fun u=>(u.1.1,u.t7.1)
 n:=fun p t=>((t.1,()),((p.1.1.1,p.1.1.2.1,p.1.1.2.2,()),((),(),(),()),((),(),(),()),()),p.1.2.1,p.1.2.2.1,p.1.t3,p.2.1,p.2.2,t.2,())
 st:=fun Y p t ki ke=>cond (decide (t.1<(nt (da p.1.1.2.2))))
  (ask (V.ja t.1 (da p.1.1.2.2)) ((gz ((gx p.1.1.2.2 (fa t.1) Fb),t.2)).bind fun r1=>
  ki ((Ea (t.1+(1:Int))),r1)))
  (ke (t.2))
 o:=fun Z p e K=>so K (.exit 4) ⟨[(4,.loc 0 0),(5,.loc 1 0)],[(cL [.Xa,.Xa,.Xa]),(cL [(.all 3),(.all 4),(.all 5)])],[.cells .bool,.cells (.pair .bool .bool),.cells ya,.cells .bool,.cells (.pair .bool .bool),.cells ya],0,3⟩ ((),(((),(),(),()),((),(),(),()),()),p.1.2.1,p.1.2.2.1,p.1.t3,p.2.1,p.2.2,e,())
 Dd:=⟨[3,4,5,8],[],[],[]⟩
 pe:=[(.exit 4,⟨[4,5],[],[],[]⟩)]
def FP{X:Type}(a:p7)(K:Y3->Option X):Option X:=
 ask (decide (0<=(nt (da a.2.1)))&&decide ((nt (da a.2.1))<=(nt (da a.2.1)))&&decide (1 * (nt (da a.2.1))<=70368744177664)&&decide ((nt (da a.2.1))<9223372036854775808)) (ask (decide (0<=(nt (da a.2.2.1)))&&decide ((nt (da a.2.2.1))<=(nt (da a.2.2.1)))&&decide (2 * (nt (da a.2.2.1))<=70368744177664)&&decide ((nt (da a.2.2.1))<9223372036854775808)) ((Ma (Im.m a) (0,(Ca (fa (nt (da a.2.1))) (false:Bool)),(Ca (fa (nt (da a.2.2.1))) ((false,false):(Bool×Bool))))).bind fun e1=>
 (Ma (Co.m (a,e1)) (0,[])).bind fun e2=>
 (Ma (jk.m (a,e1)) (0,e2)).bind fun e3=>
 K (e1.1,e1.2,e3)))
def mF:=fun a=>FP a some
def uac:Spec:=R9.sp mF
noncomputable def EP:Env:=eE [] (yb [(63,wY)]) (qL 3 Im.q (qL 9 Co.q (qL 13 jk.q qN)))
theorem IS:LS C EP true [2,3,4,5] 112 (.loop (pc [1,1,0,1,0,0] Tryz.f35)):=fun hc=>
 lO hc Im (by intros;simp only[Im,LD.m,nn])
theorem HS:LS C EP true [2,3,4,5] 112 (.loop (pc [1,1,1,0,1,0,0] Tryz.f35)):=fun hc=>
 lO hc Co (by intros;simp only[Co,LD.m,nn])
theorem GM:LS C EP true [2,3,4,5] 112 (.loop (pc [1,1,1,1,0,1,0,0] Tryz.f35)):=fun hc=>
 lO hc jk (by intros;simp only[jk,LD.m,nn])
theorem vac:OK (2) 35 (R9.sp mF):=
 fO (d:=1) (env:=EP) (Da (cc xY cn)) (fn:=Tryz.f35) (mc:=@FP) (by intros;simp only[mF,FP,nn]) (Fa:=[2,3,4,5]) (sh:=(.agg [(.own .bool),(.own (.pair .bool .bool)),(.own ya)])) (hl:=fun hc=>(nc (by kernel_rfl) (Ua (IS hc) (Ua (HS hc) (Ua (GM hc) Kb)))))
def e_:FS (p_) (Y3)where
 sk:=⟨(cL [(.agg jb),(.lit (.slice .i)),.i]),[],0⟩
 a:=fun u=>((q8 u.1.1),u.1.2.1,u.1.2.2.1)
 o:=fun Z a r K=>kv K (.agg (cL [(.all 0),(.all 1),(.all 2)])) [.cells .bool,.cells (.pair .bool .bool),.cells ya] 0 ((),(),(),()) (r.1,r.2.1,r.2.2,())
def Nq:LD ((Y39)×Ga) (vQ) (Y3)where
 sk:=⟨[(1,.v (.lit (.slice .i))),(2,.i),(3,.loc 0 0),(6,.loc 1 0),(7,.loc 2 0),(8,.i)],[jb,(cL [.Xa,.Xa,.Xa]),(cL [(.all 0),(.all 1),(.all 2)])],[.cells .bool,.cells (.pair .bool .bool),.cells ya],0,0⟩
 p:=fun u=>((u.1.1,u.1.2.1),u.2.1.1.1,(q7 u.2.1.1.2))
 t:=fun u=>(u.1.2.2.1,u.2.2.1,u.t3.1,u.t4.1)
 n:=fun p t=>((p.1.1,p.1.2,t.1,()),((r7 p.2 (p.t8,())),((),(),(),()),((),(),(),()),()),t.2.1,t.2.2.1,t.t3,())
 st:=fun Y p t ki ke=>cond (decide (t.1<(nt (da p.1.1))))
  (ask (V.ja t.1 (da p.1.1)) ((lF (p.2,(gx p.1.1 (fa t.1) []),p.1.2)).bind fun r1=>
  (mF (r1,t.2.1,t.2.2.1,t.2.2.2)).bind fun r2=>
  ki ((Ea (t.1+(1:Int))),r2.1,r2.2.1,r2.2.2)))
  (ke ((t.2.1,t.2.2.1,t.2.2.2)))
 o:=fun Z p e K=>so K (.exit 0) ⟨[(6,.loc 0 0),(7,.loc 1 0)],[(cL [.Xa,.Xa,.Xa]),(cL [(.all 0),(.all 1),(.all 2)])],[.cells .bool,.cells (.pair .bool .bool),.cells ya],0,0⟩ ((),(((),(),(),()),((),(),(),()),()),e.1,e.2.1,e.2.2,())
 Dd:=⟨[1,2,3,6,7,8],[],[],[]⟩
 pe:=[(.exit 0,⟨[6,7],[],[],[]⟩)]
def jQ{X:Type}(a:p_)(K:Y3->Option X):Option X:=
 (bC a.1).bind fun r1=>
 (Ma (Nq.m (a.2,a.1)) (0,r1.1,r1.2.1,r1.2.2)).bind fun e2=>
 K (e2.1,e2.2.1,e2.2.2)
def xF:=fun a=>jQ a some
def sad:Spec:=e_.sp xF
noncomputable def f_:Env:=eE [] (yb [(15,dN),(36,qac),(35,uac)]) (qL 3 Nq.q qN)
theorem JT:LS C f_ true [3,6,7] 27 (.loop (pc [1,1,0,1,0,0] Tryz.f11)):=fun hc=>
 lO hc Nq (by intros;simp only[Nq,LD.m,nn])
theorem tad:OK (5) 11 (e_.sp xF):=
 fO (d:=4) (env:=f_) (Da (cc eN (cc rac (cc vac cn)))) (fn:=Tryz.f11) (mc:=@jQ) (by intros;simp only[xF,jQ,nn]) (Fa:=[3,6,7]) (sh:=(.agg [(.own .bool),(.own (.pair .bool .bool)),(.own ya)])) (hl:=fun hc=>(nc (by kernel_rfl) (Ua (JT hc) Kb)))
def b_:FS (Y37) (Bool)where
 sk:=⟨(cL [(.agg (cL [(.all 0),(.all 1),(.all 2)])),(.agg (cL [(.all 3),(.all 4),(.all 5)]))]),[.cells .bool,.cells (.pair .bool .bool),.cells ya,.cells .bool,.cells (.pair .bool .bool),.cells ya],0⟩
 a:=fun u=>(r5 u.2 u.t6.1)
 o:=fun Z a r K=>kv K (.bool) [.cells .bool,.cells (.pair .bool .bool),.cells ya,.cells .bool,.cells (.pair .bool .bool),.cells ya] 0 r (r5 a (a.t5,()))
def Lm:LD (((List Bool)×(Y38))) (Int) ((Unit) ⊕ (Unit))where
 sk:=⟨[(2,.loc 0 0),(3,.loc 1 0),(5,.i)],[(cL [(.all 0),(.all 1),(.all 2)]),(cL [(.all 3),(.all 4),(.all 5)])],[.cells .bool,.cells (.pair .bool .bool),.cells ya,.cells .bool,.cells (.pair .bool .bool),.cells ya],0,6⟩
 p:=fun u=>(q6 u.2.2)
 t:=fun u=>u.1.1
 n:=fun p t=>((t,()),(((),(),(),()),((),(),(),()),()),(r5 p (p.t5,())))
 st:=fun Y p t ki ke=>cond (decide (t<(nt (da p.1))))
  (ask (V.ja t (da p.1)) (ask (V.ja t (da p.2.2.2.1)) (cond (!((gx p.1 (fa t) false)==(gx p.2.2.2.1 (fa t) false)))
  (ke (.inl ()))
  (ask (V.ja t (da p.2.1)) (ask (V.ja t (da p.2.2.2.2.1)) (cond (!(((gx p.2.1 (fa t) (false,false)).1==(gx p.2.2.2.2.1 (fa t) (false,false)).1)&&(((gx p.2.1 (fa t) (false,false)).2==(gx p.2.2.2.2.1 (fa t) (false,false)).2)&&true)))
  (ke (.inl ()))
  (ki ((Ea (t+(1:Int)))))))))))
  (ke (.inr (())))
 o:=fun Z p e K=>Sum.elim (fun e=>so K (.ret) ⟨[(4,.v .bool)],[],[.cells .bool,.cells (.pair .bool .bool),.cells ya,.cells .bool,.cells (.pair .bool .bool),.cells ya],0,6⟩ ((false,()),(),(r5 p (p.t5,())))) (fun e=>so K (.exit 0) ⟨[(2,.loc 0 0),(3,.loc 1 0)],[(cL [(.all 0),(.all 1),(.all 2)]),(cL [(.all 3),(.all 4),(.all 5)])],[.cells .bool,.cells (.pair .bool .bool),.cells ya,.cells .bool,.cells (.pair .bool .bool),.cells ya],0,6⟩ ((),(((),(),(),()),((),(),(),()),()),(r5 p (p.t5,())))) e
 Dd:=⟨[2,3,5],[],[],[]⟩
 pe:=[(.ret,⟨[4],[],[],[]⟩),(.exit 0,⟨[2,3],[],[],[]⟩)]
def Km:LD (((List Bool)×(Y38))) (Int) ((Unit) ⊕ (Unit))where
 sk:=⟨[(2,.loc 0 0),(3,.loc 1 0),(6,.i)],[(cL [(.all 0),(.all 1),(.all 2)]),(cL [(.all 3),(.all 4),(.all 5)])],[.cells .bool,.cells (.pair .bool .bool),.cells ya,.cells .bool,.cells (.pair .bool .bool),.cells ya],0,6⟩
 p:=fun u=>(q6 u.2.2)
 t:=fun u=>u.1.1
 n:=fun p t=>((t,()),(((),(),(),()),((),(),(),()),()),(r5 p (p.t5,())))
 st:=fun Y p t ki ke=>cond (decide (t<(nt (da p.2.2.1))))
  (ask (V.ja t (da p.2.2.1)) (ask (V.ja t (da p.2.2.2.2.2)) (cond (!((decide ((gx p.2.2.1 (fa t) Fb).1=(gx p.2.2.2.2.2 (fa t) Fb).1))&&((decide ((gx p.2.2.1 (fa t) Fb).2=(gx p.2.2.2.2.2 (fa t) Fb).2))&&true)))
  (ke (.inl ()))
  (ki ((Ea (t+(1:Int))))))))
  (ke (.inr (())))
 o:=fun Z p e K=>Sum.elim (fun e=>so K (.ret) ⟨[(4,.v .bool)],[],[.cells .bool,.cells (.pair .bool .bool),.cells ya,.cells .bool,.cells (.pair .bool .bool),.cells ya],0,6⟩ ((false,()),(),(r5 p (p.t5,())))) (fun e=>so K (.exit 2) ⟨[],[],[.cells .bool,.cells (.pair .bool .bool),.cells ya,.cells .bool,.cells (.pair .bool .bool),.cells ya],0,6⟩ ((),(),(r5 p (p.t5,())))) e
 Dd:=⟨[2,3,6],[],[],[]⟩
 pe:=[(.ret,⟨[4],[],[],[]⟩),(.exit 2,⟨[],[],[],[]⟩)]
def fQ{X:Type}(a:Y37)(K:Bool->Option X):Option X:=
 cond (!(decide ((nt (da a.1))=(nt (da a.2.2.2.1)))))
 (K false)
 (cond (!(decide ((nt (da a.2.1))=(nt (da a.2.2.2.2.1)))))
 (K false)
 (cond (!(decide ((nt (da a.2.2.1))=(nt (da a.2.2.2.2.2)))))
 (K false)
 ((Ma (Lm.m a) 0).bind fun e1=>
 Sum.elim (fun e2=>K false)
 (fun e3=>(Ma (Km.m a) 0).bind fun e4=>
 Sum.elim (fun e5=>K false)
 (fun e6=>K true) e4) e1)))
def kz:=fun a=>fQ a some
def nad:Spec:=b_.sp kz
noncomputable def KZ:Env:=eE [] (yb []) (qL 4 Lm.q (qL 9 Km.q qN))
theorem vT:LS C KZ true [2,3] 81 (.loop (pc [1,1,0,1,0,0] Tryz.f13)):=fun hc=>
 lO hc Lm (by intros;simp only[Lm,LD.m,nn])
theorem tT:LS C KZ true [2,3] 81 (.loop (pc [1,1,1,0,1,0,0] Tryz.f13)):=fun hc=>
 lO hc Km (by intros;simp only[Km,LD.m,nn])
theorem oad:OK (1) 13 (b_.sp kz):=
 fO (d:=0) (env:=KZ) (Da cn) (fn:=Tryz.f13) (mc:=@fQ) (by intros;simp only[kz,fQ,nn]) (Fa:=[2,3]) (hl:=fun hc=>(nc (by kernel_rfl) (Ua (vT hc) (Ua (tT hc) Kb))))
def J9:FS (Int) (ByteArray)where
 sk:=⟨(.cons .i .nil),[],0⟩
 a:=fun u=>u.1.1
 o:=fun Z a r K=>kv K (.str) [] 0 r ()
def zP{X:Type}(a:Int)(K:ByteArray->Option X):Option X:=
 (Zl a).bind fun r1=>
 K r1
def lp:=fun a=>zP a some
def jac:Spec:=J9.sp lp
noncomputable def hah:Env:=eE [] (yb [(39,DM)]) qN
theorem kac:OK (4) 42 (J9.sp lp):=
 fO (d:=3) (env:=hah) (Da (cc EM cn)) (fn:=Tryz.f42) (mc:=@zP) (by intros;simp only[lp,zP,nn])
def X':FS (Y41) (ByteArray)where
 sk:=⟨(cL [(.agg jb),(.agg (cL [(.all 0),(.all 1),(.all 2)]))]),[.cells .bool,.cells (.pair .bool .bool),.cells ya],0⟩
 a:=fun u=>((q8 u.1.1),u.2.1,u.2.2.1,u.t3.1)
 o:=fun Z a r K=>kv K (.str) [.cells .bool,.cells (.pair .bool .bool),.cells ya] 0 r (a.2.1,a.2.2.1,a.t3,())
def jy:PD ((Int×(Int×(Int×(ByteArray×Int))))×Bool×(Ga×vb)) (Int×ByteArray)where
 sk:=⟨[(2,.loc 0 0),(3,.loc 1 0),(5,.i),(6,.i),(7,.i),(8,.v .str),(9,.i),(24,.v .bool)],[jb,(cL [(.all 0),(.all 1),(.all 2)])],[.cells .bool,.cells (.pair .bool .bool),.cells ya],0,3⟩
 p:=fun u=>((q5 u.1),u.1.t5.1,(q8 u.2.1.1),(q3 u.2.2))
 st:=fun Y p ke=>cond p.2.1
  (ke (((Ea (p.1.1+(1:Int))),p.1.2.2.2.1)))
  (ask (decide (za p.1.2.2.2.1+za (str [110,111,32])<=9223372036854775807)) ((lp p.1.2.2.2.2).bind fun r1=>
  ask (decide (za (p.1.2.2.2.1++(str [110,111,32]))+za r1<=9223372036854775807)) (ask (decide (za ((p.1.2.2.2.1++(str [110,111,32]))++r1)+za (str [10])<=9223372036854775807)) (ke ((p.1.1,(((p.1.2.2.2.1++(str [110,111,32]))++r1)++(str [10]))))))))
 o:=fun Z p e K=>so K (.normal) ⟨[(2,.loc 0 0),(3,.loc 1 0),(5,.i),(6,.i),(7,.i),(8,.v .str),(9,.i)],[jb,(cL [(.all 0),(.all 1),(.all 2)])],[.cells .bool,.cells (.pair .bool .bool),.cells ya],0,3⟩ ((e.1,p.1.2.1,p.1.2.2.1,e.2,p.1.t4,()),((r7 p.2.2.1 (p.2.2.1.t7,())),((),(),(),()),()),p.t3.1,p.t4.1,p.t5,())
 Dd:=⟨[2,3,5,6,7,8,9,24],[],[],[]⟩
 pe:=[(.normal,⟨[2,3,5,6,7,8,9],[],[],[]⟩)]
def Ms:PD (Int×Int×Int×ByteArray×Int×Bool×Bool×(Ga×vb)) (Int)where
 sk:=⟨[(2,.loc 0 0),(3,.loc 1 0),(5,.i),(6,.i),(7,.i),(8,.v .str),(9,.i),(10,.v .bool),(46,.v .bool)],[jb,(cL [(.all 0),(.all 1),(.all 2)])],[.cells .bool,.cells (.pair .bool .bool),.cells ya],0,3⟩
 p:=fun u=>(r7 u.1 ((q8 u.2.1.1),(q3 u.2.2)))
 st:=fun Y p ke=>cond p.2.2.2.2.2.2.1
  (ke ((Ea (p.2.2.1+(1:Int)))))
  (ke (p.2.2.1))
 o:=fun Z p e K=>so K (.normal) ⟨[(2,.loc 0 0),(3,.loc 1 0),(5,.i),(6,.i),(7,.i),(8,.v .str),(9,.i),(10,.v .bool)],[jb,(cL [(.all 0),(.all 1),(.all 2)])],[.cells .bool,.cells (.pair .bool .bool),.cells ya],0,3⟩ ((p.1,p.2.1,e,(r3 p.t3 ())),((r7 p.t7.1 (p.t7.1.t7,())),((),(),(),()),()),p.t8.1,p.t9.1,p.t10,())
 Dd:=⟨[2,3,5,6,7,8,9,10,46],[],[],[]⟩
 pe:=[(.normal,⟨[2,3,5,6,7,8,9,10],[],[],[]⟩)]
def Ls:PD (Y54) (Int)where
 sk:=⟨[(2,.loc 0 0),(3,.loc 1 0),(5,.i),(6,.i),(7,.i),(8,.v .str),(9,.i),(49,.v .bool)],[jb,(cL [(.all 0),(.all 1),(.all 2)])],[.cells .bool,.cells (.pair .bool .bool),.cells ya],0,3⟩
 p:=fun u=>(r6 u.1 ((q8 u.2.1.1),(q3 u.2.2)))
 st:=fun Y p ke=>cond p.2.2.2.2.2.1
  (ke ((Ea (p.2.2.1+(1:Int)))))
  (ke (p.2.2.1))
 o:=fun Z p e K=>so K (.normal) ⟨[(2,.loc 0 0),(3,.loc 1 0),(5,.i),(6,.i),(7,.i),(8,.v .str),(9,.i)],[jb,(cL [(.all 0),(.all 1),(.all 2)])],[.cells .bool,.cells (.pair .bool .bool),.cells ya],0,3⟩ ((p.1,p.2.1,e,p.t3.1,p.t4.1,()),((r7 p.t6.1 (p.t6.1.t7,())),((),(),(),()),()),p.t7.1,p.t8.1,p.t9,())
 Dd:=⟨[2,3,5,6,7,8,9,49],[],[],[]⟩
 pe:=[(.normal,⟨[2,3,5,6,7,8,9],[],[],[]⟩)]
def Ks:PD (Y54) (Int)where
 sk:=⟨[(2,.loc 0 0),(3,.loc 1 0),(5,.i),(6,.i),(7,.i),(8,.v .str),(9,.i),(57,.v .bool)],[jb,(cL [(.all 0),(.all 1),(.all 2)])],[.cells .bool,.cells (.pair .bool .bool),.cells ya],0,3⟩
 p:=fun u=>(r6 u.1 ((q8 u.2.1.1),(q3 u.2.2)))
 st:=fun Y p ke=>cond p.2.2.2.2.2.1
  (ke ((Ea (p.2.1+(1:Int)))))
  (ke (p.2.1))
 o:=fun Z p e K=>so K (.normal) ⟨[(2,.loc 0 0),(3,.loc 1 0),(5,.i),(6,.i),(7,.i),(8,.v .str),(9,.i)],[jb,(cL [(.all 0),(.all 1),(.all 2)])],[.cells .bool,.cells (.pair .bool .bool),.cells ya],0,3⟩ ((p.1,e,(r3 p.2.2 ())),((r7 p.t6.1 (p.t6.1.t7,())),((),(),(),()),()),p.t7.1,p.t8.1,p.t9,())
 Dd:=⟨[2,3,5,6,7,8,9,57],[],[],[]⟩
 pe:=[(.normal,⟨[2,3,5,6,7,8,9],[],[],[]⟩)]
def Js:PD (Y54) (Int)where
 sk:=⟨[(2,.loc 0 0),(3,.loc 1 0),(5,.i),(6,.i),(7,.i),(8,.v .str),(9,.i),(65,.v .bool)],[jb,(cL [(.all 0),(.all 1),(.all 2)])],[.cells .bool,.cells (.pair .bool .bool),.cells ya],0,3⟩
 p:=fun u=>(r6 u.1 ((q8 u.2.1.1),(q3 u.2.2)))
 st:=fun Y p ke=>cond p.2.2.2.2.2.1
  (ke ((Ea (p.2.1+(1:Int)))))
  (ke (p.2.1))
 o:=fun Z p e K=>so K (.normal) ⟨[(2,.loc 0 0),(3,.loc 1 0),(5,.i),(6,.i),(7,.i),(8,.v .str),(9,.i)],[jb,(cL [(.all 0),(.all 1),(.all 2)])],[.cells .bool,.cells (.pair .bool .bool),.cells ya],0,3⟩ ((p.1,e,(r3 p.2.2 ())),((r7 p.t6.1 (p.t6.1.t7,())),((),(),(),()),()),p.t7.1,p.t8.1,p.t9,())
 Dd:=⟨[2,3,5,6,7,8,9,65],[],[],[]⟩
 pe:=[(.normal,⟨[2,3,5,6,7,8,9],[],[],[]⟩)]
def Jq:LD ((Ga×vb)) (Int×Int×Int×ByteArray×Int) (Int×Int×Int×ByteArray)where
 sk:=⟨[(2,.loc 0 0),(3,.loc 1 0),(5,.i),(6,.i),(7,.i),(8,.v .str),(9,.i)],[jb,(cL [(.all 0),(.all 1),(.all 2)])],[.cells .bool,.cells (.pair .bool .bool),.cells ya],0,3⟩
 p:=fun u=>((q8 u.2.1.1),(q3 u.2.2))
 t:=fun u=>(r4 u.1 u.1.t4.1)
 n:=fun p t=>((r4 t (t.t4,())),((r7 p.1 (p.1.t7,())),((),(),(),()),()),p.2.1,p.2.2.1,p.t3,())
 st:=fun Y p t ki ke=>cond (decide (t.2.2.2.2<(nt (da p.1.1))))
  (ask (V.ja t.2.2.2.2 (da p.2.1)) ((jy.m (t,(gx p.2.1 (fa t.2.2.2.2) false),p)).bind fun e1=>
  ask (V.ja t.2.2.2.2 (da p.1.1)) (ask (V.ja t.2.2.2.2 (da p.1.1)) ((Ms.m (e1.1,t.2.1,t.2.2.1,e1.2,t.2.2.2.2,(decide ((gx p.1.1 (fa t.2.2.2.2) Ta).1=(15:Int))),(!(decide ((gx p.1.1 (fa t.2.2.2.2) Ta).1=(21:Int)))),p)).bind fun e2=>
  (Ls.m (e1.1,t.2.1,e2,e1.2,t.2.2.2.2,(decide ((gx p.1.1 (fa t.2.2.2.2) Ta).1=(15:Int))),p)).bind fun e3=>
  ask (V.ja t.2.2.2.2 (da p.2.2.1)) ((Ks.m (e1.1,t.2.1,e3,e1.2,t.2.2.2.2,(gx p.2.2.1 (fa t.2.2.2.2) (false,false)).1,p)).bind fun e4=>
  ask (V.ja t.2.2.2.2 (da p.2.2.1)) ((Js.m (e1.1,e4,e3,e1.2,t.2.2.2.2,(gx p.2.2.1 (fa t.2.2.2.2) (false,false)).2,p)).bind fun e5=>
  ki (e1.1,e5,e3,e1.2,(Ea (t.2.2.2.2+(1:Int))))))))))
  (ke ((t.1,t.2.1,t.2.2.1,t.2.2.2.1)))
 o:=fun Z p e K=>so K (.exit 0) ⟨[(2,.loc 0 0),(3,.loc 1 0),(5,.i),(6,.i),(7,.i),(8,.v .str)],[jb,(cL [(.all 0),(.all 1),(.all 2)])],[.cells .bool,.cells (.pair .bool .bool),.cells ya],0,3⟩ ((r3 e (e.t3,())),((r7 p.1 (p.1.t7,())),((),(),(),()),()),p.2.1,p.2.2.1,p.t3,())
 Dd:=⟨[2,3,5,6,7,8,9],[],[],[]⟩
 pe:=[(.exit 0,⟨[2,3,5,6,7,8],[],[],[]⟩)]
def Hs:PD (Int×Int×Int×(ByteArray×Int)×(Ga×vb)) (Bool)where
 sk:=⟨[(2,.loc 0 0),(3,.loc 1 0),(5,.i),(6,.i),(7,.i),(8,.v .str),(11,.i)],[jb,(cL [(.all 0),(.all 1),(.all 2)])],[.cells .bool,.cells (.pair .bool .bool),.cells ya],0,3⟩
 p:=fun u=>(r3 u.1 ((u.1.t3.1,u.1.t4.1),(q8 u.2.1.1),(q3 u.2.2)))
 st:=fun Y p ke=>ask (V.ja p.2.2.2.1.2 (da p.2.2.2.2.1.1)) (cond (decide ((gx p.2.2.2.2.1.1 (fa p.2.2.2.1.2) Ta).1=(15:Int)))
  (ask (V.ja p.2.2.2.1.2 (da p.2.2.2.2.2.1)) (cond (gx p.2.2.2.2.2.1 (fa p.2.2.2.1.2) false)
  (ask (V.ja p.2.2.2.1.2 (da p.2.2.2.2.2.2.1)) (ask (V.ja p.2.2.2.1.2 (da p.2.2.2.2.2.2.1)) (ke ((!((gx p.2.2.2.2.2.2.1 (fa p.2.2.2.1.2) (false,false)).1==(gx p.2.2.2.2.2.2.1 (fa p.2.2.2.1.2) (false,false)).2))))))
  (ke (false))))
  (ke (false)))
 o:=fun Z p e K=>so K (.normal) ⟨[(2,.loc 0 0),(3,.loc 1 0),(5,.i),(6,.i),(7,.i),(8,.v .str),(11,.i),(103,.v .bool)],[jb,(cL [(.all 0),(.all 1),(.all 2)])],[.cells .bool,.cells (.pair .bool .bool),.cells ya],0,3⟩ ((r3 p (p.t3.1.1,p.t3.1.2,e,())),((r7 p.t4.1 (p.t4.1.t7,())),((),(),(),()),()),p.t5.1,p.t6.1,p.t7,())
 Dd:=⟨[2,3,5,6,7,8,11],[],[],[]⟩
 pe:=[(.normal,⟨[2,3,5,6,7,8,11,103],[],[],[]⟩)]
def Is:PD (Int×Int×Int×(ByteArray×Int)×ByteArray×Bool×(Ga×vb)) (ByteArray)where
 sk:=⟨[(2,.loc 0 0),(3,.loc 1 0),(5,.i),(6,.i),(7,.i),(8,.v .str),(11,.i),(12,.v .str),(109,.v .bool)],[jb,(cL [(.all 0),(.all 1),(.all 2)])],[.cells .bool,.cells (.pair .bool .bool),.cells ya],0,3⟩
 p:=fun u=>(r3 u.1 ((u.1.t3.1,u.1.t4.1),u.1.t5.1,u.1.t6.1,(q8 u.2.1.1),(q3 u.2.2)))
 st:=fun Y p ke=>cond p.2.2.2.2.2.1
  (ke ((str [49])))
  (ke (p.2.2.2.2.1))
 o:=fun Z p e K=>so K (.normal) ⟨[(2,.loc 0 0),(3,.loc 1 0),(5,.i),(6,.i),(7,.i),(8,.v .str),(11,.i),(12,.v .str)],[jb,(cL [(.all 0),(.all 1),(.all 2)])],[.cells .bool,.cells (.pair .bool .bool),.cells ya],0,3⟩ ((r3 p (p.t3.1.1,p.t3.1.2,e,())),((r7 p.t6.1 (p.t6.1.t7,())),((),(),(),()),()),p.t7.1,p.t8.1,p.t9,())
 Dd:=⟨[2,3,5,6,7,8,11,12,109],[],[],[]⟩
 pe:=[(.normal,⟨[2,3,5,6,7,8,11,12],[],[],[]⟩)]
def Jo:PD (Int×Int×Int×(ByteArray×Int)×Bool×(Ga×vb)) (ByteArray)where
 sk:=⟨[(2,.loc 0 0),(3,.loc 1 0),(5,.i),(6,.i),(7,.i),(8,.v .str),(11,.i),(103,.v .bool)],[jb,(cL [(.all 0),(.all 1),(.all 2)])],[.cells .bool,.cells (.pair .bool .bool),.cells ya],0,3⟩
 p:=fun u=>(r3 u.1 ((u.1.t3.1,u.1.t4.1),u.1.t5.1,(q8 u.2.1.1),(q3 u.2.2)))
 st:=fun Y p ke=>cond p.2.2.2.2.1
  (ask (V.ja p.2.2.2.1.2 (da p.2.2.2.2.2.2.2.1)) ((Is.m (p.1,p.2.1,p.2.2.1,p.2.2.2.1,(str [48]),(gx p.2.2.2.2.2.2.2.1 (fa p.2.2.2.1.2) (false,false)).2,p.2.2.2.2.2)).bind fun e1=>
  ask (decide (za p.2.2.2.1.1+za (str [111,110,101,32,119,97,121,32])<=9223372036854775807)) ((lp p.2.2.2.1.2).bind fun r2=>
  ask (decide (za (p.2.2.2.1.1++(str [111,110,101,32,119,97,121,32]))+za r2<=9223372036854775807)) (ask (decide (za ((p.2.2.2.1.1++(str [111,110,101,32,119,97,121,32]))++r2)+za (str [32])<=9223372036854775807)) (ask (decide (za (((p.2.2.2.1.1++(str [111,110,101,32,119,97,121,32]))++r2)++(str [32]))+za e1<=9223372036854775807)) (ask (decide (za ((((p.2.2.2.1.1++(str [111,110,101,32,119,97,121,32]))++r2)++(str [32]))++e1)+za (str [10])<=9223372036854775807)) (ke ((((((p.2.2.2.1.1++(str [111,110,101,32,119,97,121,32]))++r2)++(str [32]))++e1)++(str [10]))))))))))
  (ke (p.2.2.2.1.1))
 o:=fun Z p e K=>so K (.normal) ⟨[(2,.loc 0 0),(3,.loc 1 0),(5,.i),(6,.i),(7,.i),(8,.v .str),(11,.i)],[jb,(cL [(.all 0),(.all 1),(.all 2)])],[.cells .bool,.cells (.pair .bool .bool),.cells ya],0,3⟩ ((r3 p (e,p.t3.1.2,())),((r7 p.t5.1 (p.t5.1.t7,())),((),(),(),()),()),p.t6.1,p.t7.1,p.t8,())
 Dd:=⟨[2,3,5,6,7,8,11,103],[],[],[]⟩
 pe:=[(.normal,⟨[2,3,5,6,7,8,11],[],[],[]⟩)]
def gm:LD (Int×Int×Int×(Ga×vb)) (ByteArray×Int) (ByteArray)where
 sk:=⟨[(2,.loc 0 0),(3,.loc 1 0),(5,.i),(6,.i),(7,.i),(8,.v .str),(11,.i)],[jb,(cL [(.all 0),(.all 1),(.all 2)])],[.cells .bool,.cells (.pair .bool .bool),.cells ya],0,3⟩
 p:=fun u=>(r3 u.1 ((q8 u.2.1.1),(q3 u.2.2)))
 t:=fun u=>(u.1.t3.1,u.1.t4.1)
 n:=fun p t=>((r3 p (t.1,t.2,())),((r7 p.t3.1 (p.t3.1.t7,())),((),(),(),()),()),p.t4.1,p.t5.1,p.t6,())
 st:=fun Y p t ki ke=>cond (decide (t.2<(nt (da p.2.2.2.1.1))))
  ((Hs.m (p.1,p.2.1,p.2.2.1,t,p.2.2.2)).bind fun e1=>
  (Jo.m (p.1,p.2.1,p.2.2.1,t,e1,p.2.2.2)).bind fun e2=>
  ki (e2,(Ea (t.2+(1:Int)))))
  (ke (t.1))
 o:=fun Z p e K=>so K (.exit 2) ⟨[(2,.loc 0 0),(3,.loc 1 0),(5,.i),(6,.i),(7,.i),(8,.v .str)],[jb,(cL [(.all 0),(.all 1),(.all 2)])],[.cells .bool,.cells (.pair .bool .bool),.cells ya],0,3⟩ ((r3 p (e,())),((r7 p.t3.1 (p.t3.1.t7,())),((),(),(),()),()),p.t4.1,p.t5.1,p.t6,())
 Dd:=⟨[2,3,5,6,7,8,11],[],[],[]⟩
 pe:=[(.exit 2,⟨[2,3,5,6,7,8],[],[],[]⟩)]
def aQ{X:Type}(a:Y41)(K:ByteArray->Option X):Option X:=
 (Ma (Jq.m a) (0,0,0,(str []),0)).bind fun e1=>
 (Ma (gm.m (e1.1,e1.2.1,e1.2.2.1,a)) (e1.2.2.2,0)).bind fun e2=>
 (lp e1.1).bind fun r3=>
 ask (decide (za (str [112,108,97,99,101,115,32])+za r3<=9223372036854775807)) (ask (decide (za ((str [112,108,97,99,101,115,32])++r3)+za (str [32,111,102,32])<=9223372036854775807)) ((lp (nt (da a.1.1))).bind fun r4=>
 ask (decide (za (((str [112,108,97,99,101,115,32])++r3)++(str [32,111,102,32]))+za r4<=9223372036854775807)) (ask (decide (za ((((str [112,108,97,99,101,115,32])++r3)++(str [32,111,102,32]))++r4)+za (str [10,119,97,121,115,32])<=9223372036854775807)) ((lp e1.2.1).bind fun r5=>
 ask (decide (za (((((str [112,108,97,99,101,115,32])++r3)++(str [32,111,102,32]))++r4)++(str [10,119,97,121,115,32]))+za r5<=9223372036854775807)) (ask (decide (za ((((((str [112,108,97,99,101,115,32])++r3)++(str [32,111,102,32]))++r4)++(str [10,119,97,121,115,32]))++r5)+za (str [32,111,102,32])<=9223372036854775807)) ((lp e1.2.2.1).bind fun r6=>
 ask (decide (za (((((((str [112,108,97,99,101,115,32])++r3)++(str [32,111,102,32]))++r4)++(str [10,119,97,121,115,32]))++r5)++(str [32,111,102,32]))+za r6<=9223372036854775807)) (ask (decide (za ((((((((str [112,108,97,99,101,115,32])++r3)++(str [32,111,102,32]))++r4)++(str [10,119,97,121,115,32]))++r5)++(str [32,111,102,32]))++r6)+za (str [10,101,114,114,111,114,115,32])<=9223372036854775807)) ((lp (nt (da a.2.2.2))).bind fun r7=>
 ask (decide (za (((((((((str [112,108,97,99,101,115,32])++r3)++(str [32,111,102,32]))++r4)++(str [10,119,97,121,115,32]))++r5)++(str [32,111,102,32]))++r6)++(str [10,101,114,114,111,114,115,32]))+za r7<=9223372036854775807)) (ask (decide (za ((((((((((str [112,108,97,99,101,115,32])++r3)++(str [32,111,102,32]))++r4)++(str [10,119,97,121,115,32]))++r5)++(str [32,111,102,32]))++r6)++(str [10,101,114,114,111,114,115,32]))++r7)+za (str [10])<=9223372036854775807)) (ask (decide (za (((((((((((str [112,108,97,99,101,115,32])++r3)++(str [32,111,102,32]))++r4)++(str [10,119,97,121,115,32]))++r5)++(str [32,111,102,32]))++r6)++(str [10,101,114,114,111,114,115,32]))++r7)++(str [10]))+za e2<=9223372036854775807)) (K ((((((((((((str [112,108,97,99,101,115,32])++r3)++(str [32,111,102,32]))++r4)++(str [10,119,97,121,115,32]))++r5)++(str [32,111,102,32]))++r6)++(str [10,101,114,114,111,114,115,32]))++r7)++(str [10]))++e2))))))))))))
def aC:=fun a=>aQ a some
def jad:Spec:=X'.sp aC
noncomputable def Ce:Env:=eE [1000009,1000013,1000015,1000017,1000019,1000024,1000026,2000023] (yb [(42,jac)]) (qL 1000009 jy.q (qL 1000013 Ms.q (qL 1000015 Ls.q (qL 1000017 Ks.q (qL 1000019 Js.q (qL 6 Jq.q (qL 2000023 Hs.q (qL 1000026 Is.q (qL 1000024 Jo.q (qL 21 gm.q qN))))))))))
theorem oT:LS C Ce true [2,3] 145 (pc [1,1,1,1,1,0,1,0,0,1,0,0,0,1] Tryz.f17):=fun hc=>
 pN (n':=fun p=>((r4 p.1 (p.1.t4,p.2.1,())),((r7 p.2.2.1 (p.2.2.1.t7,())),((),(),(),()),()),p.t3.1,p.t4.1,p.t5,())) (Jd:=⟨Vf Ce.join 1000009,Ce.call,Ce.loop⟩) hc rfl jy (by intros;simp only[jy,PD.m,nn])
theorem bN:LS C Ce true [2,3] 145 (pc [1,1,1,1,1,0,1,0,0,1,0,0,1,1,0,1] Tryz.f17):=fun hc=>
 pN (n':=fun p=>((r7 p ()),((r7 p.t7.1 (p.t7.1.t7,())),((),(),(),()),()),p.t8.1,p.t9.1,p.t10,())) (Jd:=⟨Vf Ce.join 1000013,Ce.call,Ce.loop⟩) hc rfl Ms (by intros;simp only[Ms,PD.m,nn])
theorem ZM:LS C Ce true [2,3] 145 (pc [1,1,1,1,1,0,1,0,0,1,0,0,1,1,1,0,1] Tryz.f17):=fun hc=>
 pN (n':=fun p=>((r6 p ()),((r7 p.t6.1 (p.t6.1.t7,())),((),(),(),()),()),p.t7.1,p.t8.1,p.t9,())) (Jd:=⟨Vf Ce.join 1000015,Ce.call,Ce.loop⟩) hc rfl Ls (by intros;simp only[Ls,PD.m,nn])
theorem YM:LS C Ce true [2,3] 145 (pc [1,1,1,1,1,0,1,0,0,1,0,0,1,1,1,1,0,1] Tryz.f17):=fun hc=>
 pN (n':=fun p=>((r6 p ()),((r7 p.t6.1 (p.t6.1.t7,())),((),(),(),()),()),p.t7.1,p.t8.1,p.t9,())) (Jd:=⟨Vf Ce.join 1000017,Ce.call,Ce.loop⟩) hc rfl Ks (by intros;simp only[Ks,PD.m,nn])
theorem XM:LS C Ce true [2,3] 145 (pc [1,1,1,1,1,0,1,0,0,1,0,0,1,1,1,1,1,1] Tryz.f17):=fun hc=>
 pN (n':=fun p=>((r6 p ()),((r7 p.t6.1 (p.t6.1.t7,())),((),(),(),()),()),p.t7.1,p.t8.1,p.t9,())) (Jd:=⟨Vf Ce.join 1000019,Ce.call,Ce.loop⟩) hc rfl Js (by intros;simp only[Js,PD.m,nn])
theorem nT:LS C Ce true [2,3] 145 (.loop (pc [1,1,1,1,1,0,1,0,0] Tryz.f17)):=fun hc=>
 lO hc Jq (by intros;simp only[Jq,LD.m,nn]) (hl:=(nc (by kernel_rfl) (Ua (oT hc) (Ua (bN hc) (Ua (ZM hc) (Ua (YM hc) (Ua (XM hc) Kb)))))))
theorem TM:LS C Ce true [2,3] 145 (pc [1,1,1,1,1,1,0,1,0,0,1,0,0,0] Tryz.f17):=fun hc=>
 pN (n':=fun p=>((r3 p (p.t3.1.1,p.t3.1.2,())),((r7 p.t4.1 (p.t4.1.t7,())),((),(),(),()),()),p.t5.1,p.t6.1,p.t7,())) (Jd:=⟨Vf Ce.join 2000023,Ce.call,Ce.loop⟩) hc rfl Hs (by intros;simp only[Hs,PD.m,nn])
theorem VM:LS C Ce true [2,3] 145 (pc [1,1,1,1,1,1,0,1,0,0,1,0,0,1,0,1,0,1] Tryz.f17):=fun hc=>
 pN (n':=fun p=>((r3 p (p.t3.1.1,p.t3.1.2,p.t4.1,p.t5.1,())),((r7 p.t6.1 (p.t6.1.t7,())),((),(),(),()),()),p.t7.1,p.t8.1,p.t9,())) (Jd:=⟨Vf Ce.join 1000026,Ce.call,Ce.loop⟩) hc rfl Is (by intros;simp only[Is,PD.m,nn])
theorem WM:LS C Ce true [2,3] 145 (pc [1,1,1,1,1,1,0,1,0,0,1,0,0,1] Tryz.f17):=fun hc=>
 pN (n':=fun p=>((r3 p (p.t3.1.1,p.t3.1.2,p.t4.1,())),((r7 p.t5.1 (p.t5.1.t7,())),((),(),(),()),()),p.t6.1,p.t7.1,p.t8,())) (Jd:=⟨Vf Ce.join 1000024,Ce.call,Ce.loop⟩) hc rfl Jo (by intros;simp only[Jo,PD.m,nn]) (hl:=(nc (by kernel_rfl) (Ua (VM hc) Kb)))
theorem UM:LS C Ce true [2,3] 145 (.loop (pc [1,1,1,1,1,1,0,1,0,0] Tryz.f17)):=fun hc=>
 lO hc gm (by intros;simp only[gm,LD.m,nn]) (hl:=(nc (by kernel_rfl) (Ua (TM hc) (Ua (WM hc) Kb))))
theorem kad:OK (5) 17 (X'.sp aC):=
 fO (d:=4) (env:=Ce) (Da (cc kac cn)) (fn:=Tryz.f17) (mc:=@aQ) (by intros;simp only[aC,aQ,nn]) (Fa:=[2,3]) (hl:=fun hc=>(nc (by kernel_rfl) (Ua (nT hc) (Ua (UM hc) Kb))))
end
end Go.U
end
