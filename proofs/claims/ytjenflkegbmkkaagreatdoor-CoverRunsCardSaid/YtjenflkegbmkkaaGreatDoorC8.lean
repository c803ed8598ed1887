/- The functions of the program as Lean functions, and that the evaluator says so. -/
import Derived.Test.YtjenflkegbmkkaaGreatDoorC7
set_option linter.unusedVariables false
set_option linter.unusedSimpArgs false
set_option linter.unusedSectionVars false
open Int renaming toNat→fa
open List renaming length→da,replicate→Ca,set→Qa
section
set_option maxRecDepth 100000
namespace Go.U
open Go Go.Proofs
noncomputable section
variable {C:V.Callee}
def g_:FS (Int) (Int)where
 sk:=⟨(.cons .i .nil),[],0⟩
 a:=fun u=>u.1.1
 o:=fun Z a r K=>kv K .i [] 0 r ()
def kQ{X:Type}(a:Int)(K:Int->Option X):Option X:=
 cond (decide ((200:Int)<a))
 (K (Ea ((200:Int)+(Int.tmod a 50))))
 (K a)
def yF:=fun a=>kQ a some
def vad:Spec:=g_.sp yF
noncomputable def vah:Env:=eE [] (yb []) qN
theorem wad:OK (1) 10 (g_.sp yF):=
 fO (d:=0) (env:=vah) (Da cn) (fn:=Tryz.f10) (mc:=@kQ) (by intros;simp only[yF,kQ,nn])
def Z':FS (Ga) (Y3)where
 sk:=⟨(.cons (.agg jb) .nil),[],0⟩
 a:=fun u=>(q8 u.1.1)
 o:=fun Z a r K=>kv K (.agg (cL [(.all 0),(.all 1),(.all 2)])) [.cells .bool,.cells (.pair .bool .bool),.cells ya] 0 ((),(),(),()) (r.1,r.2.1,r.2.2,())
def JZ{X:Type}(a:Ga)(K:Y3->Option X):Option X:=
 ask (decide (0<=(nt (da a.1)))&&decide ((nt (da a.1))<=(nt (da a.1)))&&decide (1 * (nt (da a.1))<=70368744177664)&&decide ((nt (da a.1))<9223372036854775808)) (ask (decide (0<=(nt (da a.1)))&&decide ((nt (da a.1))<=(nt (da a.1)))&&decide (2 * (nt (da a.1))<=70368744177664)&&decide ((nt (da a.1))<9223372036854775808)) (K ((Ca (fa (nt (da a.1))) (false:Bool)),(Ca (fa (nt (da a.1))) ((false,false):(Bool×Bool))),[])))
def bC:=fun a=>JZ a some
def dN:Spec:=Z'.sp bC
noncomputable def tah:Env:=eE [] (yb []) qN
theorem eN:OK (1) 15 (Z'.sp bC):=
 fO (d:=0) (env:=tah) (Da cn) (fn:=Tryz.f15) (mc:=@JZ) (by intros;simp only[bC,JZ,nn]) (Fa:=[1,2]) (sh:=(.agg [(.own .bool),(.own (.pair .bool .bool)),(.own ya)]))
def L8:FS (Y4) (Y42)where
 sk:=⟨(cL [(.agg jb),(.lit .i),.i]),[],0⟩
 a:=fun u=>((q8 u.1.1),u.1.2.1,u.1.2.2.1)
 o:=fun Z a r K=>kv K (.ptr 0 0) [.Ya xV,.cells .i,.deep .i] 0 () ((r7 a.1 (a.1.t7,a.2.1,a.2.2,(0:Int),(),(0:Int),(0:Int),(0:Int),(0:Int),(0:Int),(),(),(),())),r.1,r.2,())
def vq:LD (Ga×(Y43)×Int×Int×Int×Int×Int×Int) (Int×(List Int)) ((List Int))where
 sk:=⟨[(3,.loc 0 0),(7,.p 0 0),(8,.i)],[jb],[.Ya Yae,.cells .i],0,0⟩
 p:=fun u=>((q8 u.2.1.1),((q8 u.2.2.1),(u.2.2.1.t8.1,u.2.2.1.t9.1)),u.2.2.1.t10.1,(r4 u.2.2.1.t12 u.2.2.1.t16.1))
 t:=fun u=>(u.1.2.1,u.t3.1)
 n:=fun p t=>(((),t.1,()),((r7 p.1 (p.1.t7,())),()),(r7 p.2.1.1 (p.2.1.1.t7,p.2.1.2.1,p.2.1.2.2,p.2.2.1,(),(r4 p.t3 (p.t7,(),(),(),())))),t.2,())
 st:=fun Y p t ki ke=>cond (decide (t.1<(nt (da p.1.2.2.2.2.2.1))))
  (ask (V.ja t.1 (da p.1.2.2.2.2.2.1)) (ask (V.ja t.1 (da t.2)) (ki ((Ea (t.1+(1:Int))),(Qa t.2 (fa t.1) (gx p.1.2.2.2.2.2.1 (fa t.1) Bc).2.2)))))
  (ke (t.2))
 o:=fun Z p e K=>so K (.exit 0) ⟨[(3,.loc 0 0),(7,.p 0 0)],[jb],[.Ya Yae,.cells .i],0,0⟩ (((),()),((r7 p.1 (p.1.t7,())),()),(r7 p.2.1.1 (p.2.1.1.t7,p.2.1.2.1,p.2.1.2.2,p.2.2.1,(),(r4 p.t3 (p.t7,(),(),(),())))),e,())
 Dd:=⟨[3,7,8],[],[],[]⟩
 pe:=[(.exit 0,⟨[3,7],[],[],[]⟩)]
def Ul:LD (Int×(Ga×((Y43)×(Int×(Int×(Int×(Int×(Int×(Int×(List Int)))))))))×(List (List Int))) (Int×(List Int)) ((List Int))where
 sk:=⟨[(3,.loc 0 0),(7,.p 0 0),(9,.i),(10,.v (.all 3)),(11,.i)],[jb],[.Ya xV,.cells .i,.deep .i,.cells .i],0,0⟩
 p:=fun u=>(u.1.2.1,((q8 u.2.1.1),(((q8 u.2.2.1),(u.2.2.1.t8.1,u.2.2.1.t9.1)),(u.2.2.1.t10.1,(u.2.2.1.t12.1,(u.2.2.1.t13.1,(u.2.2.1.t14.1,(u.2.2.1.t15.1,(u.2.2.1.t16.1,u.t3.1)))))))),u.t4.1)
 t:=fun u=>(u.1.t3.1,u.t5.1)
 n:=fun p t=>(((),p.1,(),t.1,()),((r7 p.2.1.1 (p.2.1.1.t7,())),()),(r7 p.2.1.2.1.1 (p.2.1.2.1.1.t7,p.2.1.2.1.2.1,p.2.1.2.1.2.2,p.2.1.2.2.1,(),(r5 p.2.1.t3 ((),(),(),())))),p.2.1.t8,p.2.2,t.2,())
 st:=fun Y p t ki ke=>ask (V.ja p.1 (da p.2.1.1.2.2.2.2.2.2.1)) (cond (decide (t.1<(gx p.2.1.1.2.2.2.2.2.2.1 (fa p.1) fb).2.2.1))
  (ask (V.ja p.1 (da p.2.1.1.2.2.2.2.2.2.1)) (ask (decide (((da t.2)+(da ([(gx p.2.1.1.2.2.2.2.2.2.1 (fa p.1) fb).2.2.2]:List Int))) * 8<=70368744177664)&&decide (((da t.2)+(da ([(gx p.2.1.1.2.2.2.2.2.2.1 (fa p.1) fb).2.2.2]:List Int)))<9223372036854775808)) (ki ((Ea (t.1+(1:Int))),(t.2++([(gx p.2.1.1.2.2.2.2.2.2.1 (fa p.1) fb).2.2.2]:List Int))))))
  (ke (t.2)))
 o:=fun Z p e K=>so K (.exit 4) ⟨[(3,.loc 0 0),(7,.p 0 0),(9,.i),(10,.v (.all 3))],[jb],[.Ya xV,.cells .i,.deep .i,.cells .i],0,0⟩ (((),p.1,(),()),((r7 p.2.1.1 (p.2.1.1.t7,())),()),(r7 p.2.1.2.1.1 (p.2.1.2.1.1.t7,p.2.1.2.1.2.1,p.2.1.2.1.2.2,p.2.1.2.2.1,(),(r5 p.2.1.t3 ((),(),(),())))),p.2.1.t8,p.2.2,e,())
 Dd:=⟨[3,7,9,10,11],[(10,(.own (.int .i64)))],[],[]⟩
 pe:=[(.exit 4,⟨[3,7,9,10],[],[],[]⟩)]
def uq:LD (Ga×(Y43)×Int×Int×Int×Int×Int×Int×(List Int)) (Y6) ((List (List Int)))where
 sk:=⟨[(3,.loc 0 0),(7,.p 0 0),(9,.i)],[jb],[.Ya xV,.cells .i,.deep .i],0,0⟩
 p:=fun u=>((q8 u.2.1.1),((q8 u.2.2.1),(u.2.2.1.t8.1,u.2.2.1.t9.1)),u.2.2.1.t10.1,(r5 u.2.2.1.t12 u.t3.1))
 t:=fun u=>(u.1.2.1,u.t4.1)
 n:=fun p t=>(((),t.1,()),((r7 p.1 (p.1.t7,())),()),(r7 p.2.1.1 (p.2.1.1.t7,p.2.1.2.1,p.2.1.2.2,p.2.2.1,(),(r5 p.t3 ((),(),(),())))),p.t8,t.2,())
 st:=fun Y p t ki ke=>cond (decide (t.1<(nt (da p.1.2.2.2.2.2.2.1))))
  ((Ma (Ul.m (t.1,p,t.2)) (0,[])).bind fun e1=>
  ask (decide (((da t.2)+(da ([e1]:List (List Int)))) * 24<=70368744177664)&&decide (((da t.2)+(da ([e1]:List (List Int))))<9223372036854775808)) (ki ((Ea (t.1+(1:Int))),(t.2++([e1]:List (List Int))))))
  (ke (t.2))
 o:=fun Z p e K=>so K (.exit 2) ⟨[(7,.p 0 0)],[],[.Ya xV,.cells .i,.deep .i],0,0⟩ (((),()),(),(r7 p.2.1.1 (p.2.1.1.t7,p.2.1.2.1,p.2.1.2.2,p.2.2.1,(),(r5 p.t3 ((),(),(),())))),p.t8,e,())
 Dd:=⟨[3,7,9],[],[],[(0,[.any,.any,.any,.any,.any,.any,.any,.any,.any,.any,.any,.any,.any,.any,.any,.any,.any,.any,(.deep (.int .i64)),.any])]⟩
 pe:=[(.exit 2,⟨[7],[],[],[]⟩)]
def HO{X:Type}(a:Y4)(K:Y42->Option X):Option X:=
 ask (decide (0<=a.1.2.2.1)&&decide (a.1.2.2.1<=a.1.2.2.1)&&decide (8 * a.1.2.2.1<=70368744177664)&&decide (a.1.2.2.1<9223372036854775808)) ((Ma (vq.m (a.1,a,0,0,0,0,0,0)) (0,(Ca (fa a.1.2.2.1) (0:Int)))).bind fun e1=>
 (Ma (uq.m (a.1,a,0,0,0,0,0,0,e1)) (0,[])).bind fun e2=>
 K (e1,e2))
def bF:=fun a=>HO a some
def jab:Spec:=L8.sp bF
noncomputable def GO:Env:=eE [] (yb []) (qL 3 vq.q (qL 11 Ul.q (qL 7 uq.q qN)))
theorem YR:LS C GO true [3] 78 (.loop (pc [1,1,0,1,0,0] Tryz.f99)):=fun hc=>
 lO hc vq (by intros;simp only[vq,LD.m,nn])
theorem mM:LS C GO true [3] 78 (.loop (pc [1,1,1,0,1,0,0,1,0,0,1,0,1,0,0] Tryz.f99)):=fun hc=>
 lO hc Ul (by intros;simp only[Ul,LD.m,nn])
theorem XR:LS C GO true [3] 78 (.loop (pc [1,1,1,0,1,0,0] Tryz.f99)):=fun hc=>
 lO hc uq (by intros;simp only[uq,LD.m,nn]) (hl:=(nc (by kernel_rfl) (Ua (mM hc) Kb)))
theorem kab:OK (1) 99 (L8.sp bF):=
 fO (d:=0) (env:=GO) (Da cn) (fn:=Tryz.f99) (mc:=@HO) (by intros;simp only[bF,HO,nn]) (Fa:=[3]) (hl:=fun hc=>(nc (by kernel_rfl) (Ua (YR hc) (Ua (XR hc) Kb))))
def QZ:FS (Int×Int) (Bool)where
 sk:=⟨Gg,[],0⟩
 a:=fun u=>(u.1.1,u.1.2.1)
 o:=fun Z a r K=>kv K (.bool) [] 0 r ()
def FH{X:Type}(a:Int×Int)(K:Bool->Option X):Option X:=
 cond (decide (a.1=(1:Int)))
 (cond (decide ((-128:Int)<=a.2))
 (K (decide (a.2<(128:Int))))
 (K false))
 (cond (decide (a.1=(2:Int)))
 (cond (decide ((-32768:Int)<=a.2))
 (K (decide (a.2<(32768:Int))))
 (K false))
 (cond (decide ((-2147483648:Int)<=a.2))
 (K (decide (a.2<=(2147483647:Int))))
 (K false)))
def uu:=fun a=>FH a some
def K6:Spec:=QZ.sp uu
noncomputable def rad:Env:=eE [] (yb []) qN
theorem L6:OK (1) 127 (QZ.sp uu):=
 fO (d:=0) (env:=rad) (Da cn) (fn:=Tryz.f127) (mc:=@FH) (by intros;simp only[uu,FH,nn])
end
end Go.U
end
