/- The functions of the program as Lean functions, and that the evaluator says so. -/
import Derived.Test.YtjenflkegbmkkaaGreatDoorC1
set_option linter.unusedVariables false
set_option linter.unusedSimpArgs false
set_option linter.unusedSectionVars false
open Int renaming toNat→ga
open List renaming length→fa,replicate→Ja,set→Tb
section
set_option maxRecDepth 100000
namespace Go.U
open Go Go.Proofs
noncomputable section
variable {C:V.Callee}
def b7:FS (Unit) (Y2) where
 sk:=⟨.nil,[],0⟩
 a:=fun u=>()
 n:=fun a=>((),())
 o:=fun Z a r K=>K (.agg [.lit zb r.1,.int .i64 0,.int .i64 3,.int .i64 0,.lit Na r.2.1,.lit yb r.2.2.1,.lit Na r.t3.1,.lit ja r.t4]) ⟨[],0⟩
def tX {X:Type} (a:Unit) (K:Y2->Option X):Option X:=
 K (([(17,(0,(0,(0,(0,(0,(1,(-1)))))))),(12,(1,(0,(0,(0,(0,(2,(-1)))))))),(13,(0,(1,(0,(0,(0,(3,(-1)))))))),(1,(2,(0,(0,(3,(0,(4,(-1)))))))),(15,(0,(0,(2,(15,(0,(6,5))))))),(21,(0,(0,(0,(0,(1,((-1),(-1)))))))),(18,(0,(0,(0,(0,(0,(0,(-1))))))))]:List Fb),([((str [115]),(1,((-5),5)))]:List Tc),([((str [120]),(1,0))]:List Xd),[],([(0,0),(0,32)]:List Ra))
def sX:=fun a=>tX a some
def Y_:Spec:=b7.sp sX
noncomputable def yae:Env:=⟨fun k=>[].contains k,Cb [],fun X k s K=>none⟩
theorem Z_:OK (1) 34 (b7.sp sX):=
 fO (d:=0) (env:=yae) (Aa cn) (fn:=Tryz.f34) (mc:=@tX) (by intros;simp only [sX,tX,nn]) (za:=[0]) (sh:=(.agg [(.lit zb),.any,.any,.any,(.lit Na),(.lit yb),(.lit Na),(.lit ja)])) (fz:=true)
def E7:FS (Ba) (Y3) where
 sk:=⟨(.cons (.agg tc) .nil),[],0⟩
 a:=fun u=>(q8 u.1.1)
 n:=fun a=>(((w8 a),()),())
 o:=fun Z a r K=>K (.agg [.all 0,.all 1,.all 2]) ⟨[.cells .bool r.1,.cells (.pair .bool .bool) r.2.1,.cells ja r.2.2],0⟩
def iO {X:Type} (a:Ba) (K:Y3->Option X):Option X:=
 ask (decide (0<=(nt (fa a.1)))&&decide ((nt (fa a.1))<=(nt (fa a.1)))&&decide (1 * (nt (fa a.1))<=70368744177664)&&decide ((nt (fa a.1))<9223372036854775808)) (ask (decide (0<=(nt (fa a.1)))&&decide ((nt (fa a.1))<=(nt (fa a.1)))&&decide (2 * (nt (fa a.1))<=70368744177664)&&decide ((nt (fa a.1))<9223372036854775808)) (K ((Ja (ga (nt (fa a.1))) (false:Bool)),(Ja (ga (nt (fa a.1))) ((false,false):(Bool×Bool))),[])))
def Tr:=fun a=>iO a some
def YF:Spec:=E7.sp Tr
noncomputable def Cae:Env:=⟨fun k=>[].contains k,Cb [],fun X k s K=>none⟩
theorem ZF:OK (1) 14 (E7.sp Tr):=
 fO (d:=0) (env:=Cae) (Aa cn) (fn:=Tryz.f14) (mc:=@iO) (by intros;simp only [Tr,iO,nn]) (za:=[1,2]) (sh:=(.agg [(.own .bool),(.own (.pair .bool .bool)),(.own ja)]))
def J6:FS (Y4) (Y5) where
 sk:=⟨(.cons (.agg tc) (.cons (.lit (.int .i64)) (.cons (.int .i64) .nil))),[],0⟩
 a:=fun u=>((q8 u.1.1),u.1.2.1,u.1.2.2.1)
 n:=fun a=>(((w8 a.1),(a.2.1,(a.2.2,()))),())
 o:=fun Z a r K=>K (.ptr 0 0) ⟨[.fb [.lit zb a.1.1,.int .i64 a.1.2.1,.int .i64 a.1.2.2.1,.int .i64 a.1.t3.1,.lit Na a.1.t4.1,.lit yb a.1.t5.1,.lit Na a.1.t6.1,.lit ja a.1.t7,.lit (.int .i64) a.2.1,.int .i64 r.1,.all 1,.int .i64 0,.int .i64 0,.int .i64 0,.int .i64 0,.int .i64 0,.int .i64 0,.Wa,.all 2,.Wa],.cells (.int .i64) r.2.1,.deep (.int .i64) r.2.2],0⟩
def Ep:LD ((List Xd)×Int×Ba×Ba×(List Int)×Int×Int×Int×Int×Int×Int×Int) (Int×(List Int)) ((List Int)) where
 sk:=⟨[(3,.loc 0 0),(7,.v (.ptr 0 0)),(24,.v (.lit yb)),(25,.v (.int .i64)),(26,.v (.int .i64))],[tc],[.fb (.cons (.lit zb) (.cons (.int .i64) (.cons (.int .i64) (.cons (.int .i64) (.cons (.lit Na) (.cons (.lit yb) (.cons (.lit Na) (.cons (.lit ja) (.cons (.lit (.int .i64)) (.cons (.int .i64) (.cons (.all 1) (.cons (.int .i64) (.cons (.int .i64) (.cons (.int .i64) (.cons (.int .i64) (.cons (.int .i64) (.cons (.int .i64) (.cons .Wa (.cons .Wa (.cons .Wa .nil)))))))))))))))))))),.cells (.int .i64)],0,0⟩
 p:=fun u=>(u.1.2.1,u.1.2.2.1,(q8 u.2.1.1),(q8 u.2.2.1),u.2.2.1.t8.1,u.2.2.1.t9.1,u.2.2.1.t11.1,u.2.2.1.t12.1,u.2.2.1.t13.1,u.2.2.1.t14.1,u.2.2.1.t15.1,u.2.2.1.t16.1)
 t:=fun u=>(u.1.t3.1,u.t3.1)
 n:=fun p t=>(((),(p.1,(p.2.1,(t.1,())))),(((w8 p.2.2.1),()),((p.t3.1.1,(p.t3.1.2.1,(p.t3.1.2.2.1,(p.t3.1.t3.1,(p.t3.1.t4.1,(p.t3.1.t5.1,(p.t3.1.t6.1,(p.t3.1.t7,(p.t4.1,(p.t5.1,((),(p.t6.1,(p.t7.1,(p.t8.1,(p.t9.1,(p.t10.1,(p.t11,((),((),((),())))))))))))))))))))),(t.2,()))))
 st:=fun Y p t ki ke=>cond (decide (t.1<p.2.1))
  (ask (V.va t.1 (fa p.1)) (ask (V.va t.1 (fa t.2)) (ki ((Ga (t.1+(1:Int))),(Tb t.2 (ga t.1) (gx p.1 (ga t.1) Xc).2.2)))))
  (ke (t.2))
 o:=fun Z p e K=>K (.exit 0) ⟨[(3,.loc 0 0),(7,.v (.ptr 0 0))],[[.lit zb p.2.2.1.1,.int .i64 p.2.2.1.2.1,.int .i64 p.2.2.1.2.2.1,.int .i64 p.2.2.1.t3.1,.lit Na p.2.2.1.t4.1,.lit yb p.2.2.1.t5.1,.lit Na p.2.2.1.t6.1,.lit ja p.2.2.1.t7]],⟨[.fb [.lit zb p.t3.1.1,.int .i64 p.t3.1.2.1,.int .i64 p.t3.1.2.2.1,.int .i64 p.t3.1.t3.1,.lit Na p.t3.1.t4.1,.lit yb p.t3.1.t5.1,.lit Na p.t3.1.t6.1,.lit ja p.t3.1.t7,.lit (.int .i64) p.t4.1,.int .i64 p.t5.1,.all 1,.int .i64 p.t6.1,.int .i64 p.t7.1,.int .i64 p.t8.1,.int .i64 p.t9.1,.int .i64 p.t10.1,.int .i64 p.t11,.Wa,.Wa,.Wa],.cells (.int .i64) e],0⟩,0⟩
 Je:=⟨[3,7,24,25,26],[],[],[]⟩
 pe:=[(.exit 0,⟨[3,7],[],[],[]⟩)]
def Zk:LD ((List Tc)×Int×Int×Int×Tc×(Ba×((List Int)×(Int×(Int×(Int×(Int×(Int×(Int×(Int×(List Int))))))))))×(List (List Int))) (Int×(List Int)) ((List Int)) where
 sk:=⟨[(7,.v (.ptr 0 0)),(11,.loc 0 0),(12,.v (.all 3)),(41,.v (.lit Na)),(42,.v (.int .i64)),(43,.v (.int .i64)),(51,.v (.int .i64)),(52,.v (.int .i64))],[L8],[.fb kr0,.cells (.int .i64),.deep (.int .i64),.cells (.int .i64)],0,0⟩
 p:=fun u=>(u.1.2.2.1,u.1.t3.1,u.1.t4.1,u.1.t5.1,(q4 u.2.1.1),((q8 u.2.2.1),(u.2.2.1.t8.1,(u.2.2.1.t9.1,(u.2.2.1.t11.1,(u.2.2.1.t12.1,(u.2.2.1.t13.1,(u.2.2.1.t14.1,(u.2.2.1.t15.1,(u.2.2.1.t16.1,u.t3.1))))))))),u.t4.1)
 t:=fun u=>(u.1.t6.1,u.t5.1)
 n:=fun p t=>(((),((),(p.1,(p.2.1,(p.2.2.1,(p.t3.1,(t.1,()))))))),(((w4 p.t4.1),()),((p.t5.1.1.1,(p.t5.1.1.2.1,(p.t5.1.1.2.2.1,(p.t5.1.1.t3.1,(p.t5.1.1.t4.1,(p.t5.1.1.t5.1,(p.t5.1.1.t6.1,(p.t5.1.1.t7,(p.t5.1.2.1,(p.t5.1.2.2.1,((),(p.t5.1.t3.1,(p.t5.1.t4.1,(p.t5.1.t5.1,(p.t5.1.t6.1,(p.t5.1.t7.1,(p.t5.1.t8.1,((),((),((),())))))))))))))))))))),(p.t5.1.t9,(p.t6,(t.2,()))))))
 st:=fun Y p t ki ke=>cond (decide (t.1<p.2.2.2.1))
  (ask (V.va t.1 (fa t.2)) (ki ((Ga (t.1+(1:Int))),(Tb t.2 (ga t.1) p.2.2.2.2.1.2.2.2))))
  (ke (t.2))
 o:=fun Z p e K=>K (.exit 4) ⟨[(7,.v (.ptr 0 0)),(12,.v (.all 3)),(41,.v (.lit Na p.1)),(42,.v (.int .i64 p.2.1)),(43,.v (.int .i64 p.2.2.1))],[],⟨[.fb [.lit zb p.t5.1.1.1,.int .i64 p.t5.1.1.2.1,.int .i64 p.t5.1.1.2.2.1,.int .i64 p.t5.1.1.t3.1,.lit Na p.t5.1.1.t4.1,.lit yb p.t5.1.1.t5.1,.lit Na p.t5.1.1.t6.1,.lit ja p.t5.1.1.t7,.lit (.int .i64) p.t5.1.2.1,.int .i64 p.t5.1.2.2.1,.all 1,.int .i64 p.t5.1.t3.1,.int .i64 p.t5.1.t4.1,.int .i64 p.t5.1.t5.1,.int .i64 p.t5.1.t6.1,.int .i64 p.t5.1.t7.1,.int .i64 p.t5.1.t8.1,.Wa,.all 2,.Wa],.cells (.int .i64) p.t5.1.t9,.deep (.int .i64) p.t6,.cells (.int .i64) e],0⟩,0⟩
 Je:=⟨[7,11,12,41,42,43,51,52],[],[],[]⟩
 pe:=[(.exit 4,⟨[7,12,41,42,43],[],[],[]⟩)]
def Dp:LD ((List Tc)×Int×Ba×(List Int)×Int×Int×Int×Int×Int×Int×Int×(List Int)) (Y6) ((List (List Int))) where
 sk:=⟨[(7,.v (.ptr 0 0)),(41,.v (.lit Na)),(42,.v (.int .i64)),(43,.v (.int .i64))],[],[.fb kr0,.cells (.int .i64),.deep (.int .i64)],0,0⟩
 p:=fun u=>(u.1.2.1,u.1.2.2.1,(q8 u.2.2.1),u.2.2.1.t8.1,u.2.2.1.t9.1,u.2.2.1.t11.1,u.2.2.1.t12.1,u.2.2.1.t13.1,u.2.2.1.t14.1,u.2.2.1.t15.1,u.2.2.1.t16.1,u.t3.1)
 t:=fun u=>(u.1.t3.1,u.t4.1)
 n:=fun p t=>(((),(p.1,(p.2.1,(t.1,())))),((),((p.2.2.1.1,(p.2.2.1.2.1,(p.2.2.1.2.2.1,(p.2.2.1.t3.1,(p.2.2.1.t4.1,(p.2.2.1.t5.1,(p.2.2.1.t6.1,(p.2.2.1.t7,(p.t3.1,(p.t4.1,((),(p.t5.1,(p.t6.1,(p.t7.1,(p.t8.1,(p.t9.1,(p.t10.1,((),((),((),())))))))))))))))))))),(p.t11,(t.2,())))))
 st:=fun Y p t ki ke=>cond (decide (t.1<p.2.1))
  (ask (V.va t.1 (fa p.1)) (ask (decide (0<=(gx p.1 (ga t.1) Bb).2.2.1)&&decide ((gx p.1 (ga t.1) Bb).2.2.1<=(gx p.1 (ga t.1) Bb).2.2.1)&&decide (8 * (gx p.1 (ga t.1) Bb).2.2.1<=70368744177664)&&decide ((gx p.1 (ga t.1) Bb).2.2.1<9223372036854775808)) ((Oa (Zk.m (p.1,p.2.1,t.1,(nt (fa (Ja (ga (gx p.1 (ga t.1) Bb).2.2.1) (0:Int)))),(gx p.1 (ga t.1) Bb),p.2.2,t.2)) (0,(Ja (ga (gx p.1 (ga t.1) Bb).2.2.1) (0:Int)))).bind fun e1=>
  ask (decide (((fa t.2)+(fa ([e1]:List (List Int)))) * 24<=70368744177664)&&decide (((fa t.2)+(fa ([e1]:List (List Int))))<9223372036854775808)) (ki ((Ga (t.1+(1:Int))),(t.2++([e1]:List (List Int))))))))
  (ke (t.2))
 o:=fun Z p e K=>K (.exit 2) ⟨[(7,.v (.ptr 0 0))],[],⟨[.fb [.lit zb p.2.2.1.1,.int .i64 p.2.2.1.2.1,.int .i64 p.2.2.1.2.2.1,.int .i64 p.2.2.1.t3.1,.lit Na p.2.2.1.t4.1,.lit yb p.2.2.1.t5.1,.lit Na p.2.2.1.t6.1,.lit ja p.2.2.1.t7,.lit (.int .i64) p.t3.1,.int .i64 p.t4.1,.all 1,.int .i64 p.t5.1,.int .i64 p.t6.1,.int .i64 p.t7.1,.int .i64 p.t8.1,.int .i64 p.t9.1,.int .i64 p.t10.1,.Wa,.all 2,.Wa],.cells (.int .i64) p.t11,.deep (.int .i64) e],0⟩,0⟩
 Je:=⟨[7,41,42,43],[],[],[(0,[.any,.any,.any,.any,.any,.any,.any,.any,.any,.any,.any,.any,.any,.any,.any,.any,.any,.any,(.deep (.int .i64)),.any])]⟩
 pe:=[(.exit 2,⟨[7],[],[],[]⟩)]
def DN {X:Type} (a:Y4) (K:(Y5)->Option X):Option X:=
 ask (decide (0<=a.1.2.2.1)&&decide (a.1.2.2.1<=a.1.2.2.1)&&decide (8 * a.1.2.2.1<=70368744177664)&&decide (a.1.2.2.1<9223372036854775808)) ((Oa (Ep.m (a.1.2.2.2.2.2.1,(nt (fa a.1.2.2.2.2.2.1)),a.1,a.1,a.2.1,(if 0>a.2.2 then 0 else a.2.2),0,0,0,0,0,0)) (0,(Ja (ga a.1.2.2.1) (0:Int)))).bind fun e1=>
 (Oa (Dp.m (a.1.2.2.2.2.2.2.1,(nt (fa a.1.2.2.2.2.2.2.1)),a.1,a.2.1,(if 0>a.2.2 then 0 else a.2.2),0,0,0,0,0,0,e1)) (0,[])).bind fun e2=>
 K ((if 0>a.2.2 then 0 else a.2.2),e1,e2))
def sD:=fun a=>DN a some
def M_:Spec:=J6.sp sD
noncomputable def GA:Env:=⟨fun k=>[].contains k,Cb [],fun X k s K=>if k=3 then Ep.q X s K else if k=12 then Zk.q X s K else if k=8 then Dp.q X s K else none⟩
noncomputable def TW:Code:=Lb [1,1,0,1,0,0] (vb Tryz.f55)
theorem AQ (hc:Sa C GA.call):Va GA.loop (vc par C true [3,9,11] 75) (.loop TW):=
 lO hc Ep (by intros;simp only [Ep,LD.m,nn])
noncomputable def BQ:Code:=Lb [1,1,1,0,1,0,0,1,1,0,0,1,1,0,1,0,0] (vb Tryz.f55)
theorem cL (hc:Sa C GA.call):Va GA.loop (vc par C true [3,9,11] 75) (.loop BQ):=
 lO hc Zk (by intros;simp only [Zk,LD.m,nn])
noncomputable def RW:Code:=Lb [1,1,1,0,1,0,0] (vb Tryz.f55)
theorem zQ (hc:Sa C GA.call):Va GA.loop (vc par C true [3,9,11] 75) (.loop RW):=
 lO hc Dp (by intros;simp only [Dp,LD.m,nn]) (hl:=(Yc (by kernel_rfl) (Db (cL hc) Bc)))
theorem N_:OK (1) 55 (J6.sp sD):=
 fO (d:=0) (env:=GA) (Aa cn) (fn:=Tryz.f55) (mc:=@DN) (by intros;simp only [sD,DN,nn]) (za:=[3,9,11]) (hl:=fun hc=>(Yc (by kernel_rfl) (Db (AQ hc) (Db (zQ hc) Bc))))
def fW:FS (Bool) (Unit) where
 sk:=⟨(.cons (.fn 81 .nil) (.cons .bool .nil)),[],0⟩
 a:=fun u=>u.1.2.1
 n:=fun a=>(((),(a,())),())
 o:=fun Z a r K=>K (.fn 76 [.ptr 0 0,.ptr 1 0]) ⟨[.fb [.fn 81 []],.fb [.bool a]],0⟩
def iW {X:Type} (a:Bool) (K:Unit->Option X):Option X:=
 K ()
def gW:=fun a=>iW a some
def o_:Spec:=fW.sp gW
noncomputable def gae:Env:=⟨fun k=>[].contains k,Cb [],fun X k s K=>none⟩
theorem p_:OK (1) 75 (fW.sp gW):=
 fO (d:=0) (env:=gae) (Aa cn) (fn:=Tryz.f75) (mc:=@iW) (by intros;simp only [gW,iW,nn])
def DF:FS (Bool) (Unit) where
 sk:=⟨(.cons (.fn 82 .nil) (.cons .bool .nil)),[],0⟩
 a:=fun u=>u.1.2.1
 n:=fun a=>(((),(a,())),())
 o:=fun Z a r K=>K (.fn 76 [.ptr 0 0,.ptr 1 0]) ⟨[.fb [.fn 82 []],.fb [.bool a]],0⟩
def FF {X:Type} (a:Bool) (K:Unit->Option X):Option X:=
 K ()
def EF:=fun a=>FF a some
def dW:Spec:=DF.sp EF
noncomputable def x3:Env:=⟨fun k=>[].contains k,Cb [],fun X k s K=>none⟩
theorem eW:OK (1) 75 (DF.sp EF):=
 fO (d:=0) (env:=x3) (Aa cn) (fn:=Tryz.f75) (mc:=@FF) (by intros;simp only [EF,FF,nn])
def AF:FS (Bool) (Unit) where
 sk:=⟨(.cons (.fn 83 .nil) (.cons .bool .nil)),[],0⟩
 a:=fun u=>u.1.2.1
 n:=fun a=>(((),(a,())),())
 o:=fun Z a r K=>K (.fn 76 [.ptr 0 0,.ptr 1 0]) ⟨[.fb [.fn 83 []],.fb [.bool a]],0⟩
def CF {X:Type} (a:Bool) (K:Unit->Option X):Option X:=
 K ()
def BF:=fun a=>CF a some
def bW:Spec:=AF.sp BF
noncomputable def o3:Env:=⟨fun k=>[].contains k,Cb [],fun X k s K=>none⟩
theorem cW:OK (1) 75 (AF.sp BF):=
 fO (d:=0) (env:=o3) (Aa cn) (fn:=Tryz.f75) (mc:=@CF) (by intros;simp only [BF,CF,nn])
def xF:FS (Bool) (Unit) where
 sk:=⟨(.cons (.fn 84 .nil) (.cons .bool .nil)),[],0⟩
 a:=fun u=>u.1.2.1
 n:=fun a=>(((),(a,())),())
 o:=fun Z a r K=>K (.fn 76 [.ptr 0 0,.ptr 1 0]) ⟨[.fb [.fn 84 []],.fb [.bool a]],0⟩
def zF {X:Type} (a:Bool) (K:Unit->Option X):Option X:=
 K ()
def yF:=fun a=>zF a some
def ZV:Spec:=xF.sp yF
noncomputable def Z2:Env:=⟨fun k=>[].contains k,Cb [],fun X k s K=>none⟩
theorem aW:OK (1) 75 (xF.sp yF):=
 fO (d:=0) (env:=Z2) (Aa cn) (fn:=Tryz.f75) (mc:=@zF) (by intros;simp only [yF,zF,nn])
def uF:FS (Bool) (Unit) where
 sk:=⟨(.cons (.fn 85 .nil) (.cons .bool .nil)),[],0⟩
 a:=fun u=>u.1.2.1
 n:=fun a=>(((),(a,())),())
 o:=fun Z a r K=>K (.fn 76 [.ptr 0 0,.ptr 1 0]) ⟨[.fb [.fn 85 []],.fb [.bool a]],0⟩
def wF {X:Type} (a:Bool) (K:Unit->Option X):Option X:=
 K ()
def vF:=fun a=>wF a some
def XV:Spec:=uF.sp vF
noncomputable def X2:Env:=⟨fun k=>[].contains k,Cb [],fun X k s K=>none⟩
theorem YV:OK (1) 75 (uF.sp vF):=
 fO (d:=0) (env:=X2) (Aa cn) (fn:=Tryz.f75) (mc:=@wF) (by intros;simp only [vF,wF,nn])
def rF:FS (Bool) (Unit) where
 sk:=⟨(.cons (.fn 87 .nil) (.cons .bool .nil)),[],0⟩
 a:=fun u=>u.1.2.1
 n:=fun a=>(((),(a,())),())
 o:=fun Z a r K=>K (.fn 76 [.ptr 0 0,.ptr 1 0]) ⟨[.fb [.fn 87 []],.fb [.bool a]],0⟩
def tF {X:Type} (a:Bool) (K:Unit->Option X):Option X:=
 K ()
def sF:=fun a=>tF a some
def VV:Spec:=rF.sp sF
noncomputable def V2:Env:=⟨fun k=>[].contains k,Cb [],fun X k s K=>none⟩
theorem WV:OK (1) 75 (rF.sp sF):=
 fO (d:=0) (env:=V2) (Aa cn) (fn:=Tryz.f75) (mc:=@tF) (by intros;simp only [sF,tF,nn])
def oN:FS (Bool) (Unit) where
 sk:=⟨(.cons (.fn 88 .nil) (.cons .bool .nil)),[],0⟩
 a:=fun u=>u.1.2.1
 n:=fun a=>(((),(a,())),())
 o:=fun Z a r K=>K (.fn 76 [.ptr 0 0,.ptr 1 0]) ⟨[.fb [.fn 88 []],.fb [.bool a]],0⟩
def qF {X:Type} (a:Bool) (K:Unit->Option X):Option X:=
 K ()
def pF:=fun a=>qF a some
def QV:Spec:=oN.sp pF
noncomputable def U2:Env:=⟨fun k=>[].contains k,Cb [],fun X k s K=>none⟩
theorem TV:OK (1) 75 (oN.sp pF):=
 fO (d:=0) (env:=U2) (Aa cn) (fn:=Tryz.f75) (mc:=@qF) (by intros;simp only [pF,qF,nn])
def I6:FS (Unit) (Unit) where
 sk:=⟨.nil,[],0⟩
 a:=fun u=>()
 n:=fun a=>((),())
 o:=fun Z a r K=>K (.agg [.Te,.fn 80 [],.fn 76 [.ptr 0 0,.ptr 1 0],.fn 76 [.ptr 2 0,.ptr 3 0],.fn 76 [.ptr 4 0,.ptr 5 0],.fn 76 [.ptr 6 0,.ptr 7 0],.fn 76 [.ptr 8 0,.ptr 9 0],.fn 86 [],.fn 86 [],.fn 76 [.ptr 10 0,.ptr 11 0],.fn 76 [.ptr 12 0,.ptr 13 0],.fn 89 [],.fn 90 [],.fn 91 [],.fn 92 [],.fn 93 [],.fn 79 [],.fn 94 [],.fn 95 [],.fn 79 [],.fn 96 [],.fn 98 []]) ⟨[.fb [.fn 81 []],.fb [.bool true],.fb [.fn 82 []],.fb [.bool true],.fb [.fn 83 []],.fb [.bool true],.fb [.fn 84 []],.fb [.bool true],.fb [.fn 85 []],.fb [.bool true],.fb [.fn 87 []],.fb [.bool false],.fb [.fn 88 []],.fb [.bool false]],0⟩
def OW {X:Type} (a:Unit) (K:Unit->Option X):Option X:=
 K ()
def NW:=fun a=>OW a some
def K_:Spec:=I6.sp NW
noncomputable def sae:Env:=⟨fun k=>[].contains k,Cb [(75,(alt fW.tk o_ (alt DF.tk dW (alt AF.tk bW (alt xF.tk ZV (alt uF.tk XV (alt rF.tk VV QV)))))))],fun X k s K=>none⟩
theorem L_:OK (2) 56 (I6.sp NW):=
 fO (d:=1) (env:=sae) (Aa (cA p_ (cA eW (cA cW (cA aW (cA YV (cA WV (cc TV cn)))))))) (fn:=Tryz.f56) (mc:=@OW) (by intros;simp only [NW,OW,nn]) (za:=[0])
def B6:FS (Fb×(List Int)) (Bool) where
 sk:=⟨(.cons (.agg Wc) (.cons (.all 0) .nil)),[.cells (.int .i64)],0⟩
 a:=fun u=>((q8 u.1.1),u.2.1)
 n:=fun a=>(((w8 a.1),((),())),(a.2,()))
 o:=fun Z a r K=>K (.bool r) ⟨[.cells (.int .i64) a.2],0⟩
def wN {X:Type} (a:Fb×(List Int)) (K:Bool->Option X):Option X:=
 ask (V.va a.1.2.2.1 (fa a.2)) (ask (V.va a.1.2.2.2.1 (fa a.2)) (cond (decide ((Ga (a.1.2.2.2.2.1-(14:Int)))=(0:Int)))
 (K (decide ((gx a.2 (ga a.1.2.2.1) (0:Int))=(gx a.2 (ga a.1.2.2.2.1) (0:Int)))))
 (cond (decide ((Ga (a.1.2.2.2.2.1-(14:Int)))=(1:Int)))
 (K (!(decide ((gx a.2 (ga a.1.2.2.1) (0:Int))=(gx a.2 (ga a.1.2.2.2.1) (0:Int))))))
 (cond (decide ((Ga (a.1.2.2.2.2.1-(14:Int)))=(2:Int)))
 (K (decide ((gx a.2 (ga a.1.2.2.1) (0:Int))<(gx a.2 (ga a.1.2.2.2.1) (0:Int)))))
 (cond (decide ((Ga (a.1.2.2.2.2.1-(14:Int)))=(3:Int)))
 (K (decide ((gx a.2 (ga a.1.2.2.1) (0:Int))<=(gx a.2 (ga a.1.2.2.2.1) (0:Int)))))
 (cond (decide ((Ga (a.1.2.2.2.2.1-(14:Int)))=(4:Int)))
 (K (decide ((gx a.2 (ga a.1.2.2.2.1) (0:Int))<(gx a.2 (ga a.1.2.2.1) (0:Int)))))
 (cond (decide ((Ga (a.1.2.2.2.2.1-(14:Int)))=(5:Int)))
 (K (decide ((gx a.2 (ga a.1.2.2.2.1) (0:Int))<=(gx a.2 (ga a.1.2.2.1) (0:Int)))))
 (none))))))))
def Eu:=fun a=>wN a some
def x_:Spec:=B6.sp Eu
noncomputable def lae:Env:=⟨fun k=>[].contains k,Cb [],fun X k s K=>none⟩
theorem y_:OK (1) 66 (B6.sp Eu):=
 fO (d:=0) (env:=lae) (Aa cn) (fn:=Tryz.f66) (mc:=@wN) (by intros;simp only [Eu,wN,nn]) (za:=[2])
def C6:FS (Y7) (Y8) where
 sk:=⟨(.cons (.int .i64) (.cons (.all 7) (.cons (.all 8) (.cons (.int .i64) (.cons (.ptr 0 0) (.cons (.ptr 1 0) (.cons (.ptr 5 0) (.cons (.ptr 6 0) .nil)))))))),[.fb (.cons (.int .i64) .nil),.fb K8,.cells .bool,.cells (.pair .bool .bool),.cells ja,.fb (.cons (.int .i64) .nil),.fb tc,.cells (.int .i64),.deep (.int .i64)],0⟩
 a:=fun u=>(u.1.1,u.1.t3.1,u.2.1.1,u.t3.1,u.t4.1,u.t5.1,u.t6.1.1,u.t7.1.1,u.t7.1.2.1,u.t7.1.2.2.1,u.t7.1.t3.1,u.t7.1.t4.1,u.t7.1.t5.1,u.t7.1.t6.1,u.t7.1.t7.1,u.t8.1,u.t9.1)
 n:=fun a=>((a.1,((),((),(a.2.1,((),((),((),((),())))))))),((a.2.2.1,()),(((),((),((),()))),(a.t3.1,(a.t4.1,(a.t5.1,((a.t6.1,()),((a.t7.1,(a.t8.1,(a.t9.1,(a.t10.1,(a.t11.1,(a.t12.1,(a.t13.1,(a.t14.1,())))))))),(a.t15.1,(a.t16,()))))))))))
 o:=fun Z a r K=>K (.bool true) ⟨[.fb [.int .i64 a.1],.fb [.all 2,.all 3,.all 4],.cells .bool r.1,.cells (.pair .bool .bool) r.2.1,.cells ja a.t5.1,.fb [.int .i64 r.2.2],.fb [.lit zb a.t7.1,.int .i64 a.t8.1,.int .i64 a.t9.1,.int .i64 a.t10.1,.lit Na a.t11.1,.lit yb a.t12.1,.lit Na a.t13.1,.lit ja a.t14.1],.cells (.int .i64) a.t15.1,.deep (.int .i64) a.t16],0⟩
def xN {X:Type} (a:Y7) (K:Y8->Option X):Option X:=
 cond (decide ((0:Int)<=a.2.2.1))
 (ask (V.va a.2.2.1 (fa a.2.2.2.2.1)) (cond (decide (a.2.2.2.2.2.2.1=(0:Int)))
 (ask (V.va a.1 (fa a.2.2.2.1)) (ask (V.va a.1 (fa a.2.2.2.2.2.2.2.1)) (cond (decide ((gx a.2.2.2.2.2.2.2.1 (ga a.1) Ta).1=(15:Int)))
 ((Eu ((gx a.2.2.2.2.2.2.2.1 (ga a.1) Ta),a.2.2.2.2.2.2.2.2.2.2.2.2.2.2.2.1)).bind fun r1=>
 cond (!r1)
 (K ((Tb a.2.2.2.1 (ga a.1) true),(Tb a.2.2.2.2.1 (ga a.2.2.1) (true,(gx a.2.2.2.2.1 (ga a.2.2.1) (false,false)).2)),1))
 (K ((Tb a.2.2.2.1 (ga a.1) true),(Tb a.2.2.2.2.1 (ga a.2.2.1) (true,(gx a.2.2.2.2.1 (ga a.2.2.1) (false,false)).2)),0)))
 (K ((Tb a.2.2.2.1 (ga a.1) true),(Tb a.2.2.2.2.1 (ga a.2.2.1) (true,(gx a.2.2.2.2.1 (ga a.2.2.1) (false,false)).2)),0)))))
 (cond (decide (a.2.2.2.2.2.2.1=(1:Int)))
 (ask (V.va a.1 (fa a.2.2.2.1)) (ask (V.va a.1 (fa a.2.2.2.2.2.2.2.1)) (cond (decide ((gx a.2.2.2.2.2.2.2.1 (ga a.1) Ta).1=(15:Int)))
 ((Eu ((gx a.2.2.2.2.2.2.2.1 (ga a.1) Ta),a.2.2.2.2.2.2.2.2.2.2.2.2.2.2.2.1)).bind fun r2=>
 cond (!r2)
 (K ((Tb a.2.2.2.1 (ga a.1) true),(Tb a.2.2.2.2.1 (ga a.2.2.1) ((gx a.2.2.2.2.1 (ga a.2.2.1) (false,false)).1,true)),1))
 (K ((Tb a.2.2.2.1 (ga a.1) true),(Tb a.2.2.2.2.1 (ga a.2.2.1) ((gx a.2.2.2.2.1 (ga a.2.2.1) (false,false)).1,true)),0)))
 (K ((Tb a.2.2.2.1 (ga a.1) true),(Tb a.2.2.2.2.1 (ga a.2.2.1) ((gx a.2.2.2.2.1 (ga a.2.2.1) (false,false)).1,true)),0)))))
 (none))))
 (ask (V.va a.1 (fa a.2.2.2.1)) (ask (V.va a.1 (fa a.2.2.2.2.2.2.2.1)) (cond (decide ((gx a.2.2.2.2.2.2.2.1 (ga a.1) Ta).1=(15:Int)))
 ((Eu ((gx a.2.2.2.2.2.2.2.1 (ga a.1) Ta),a.2.2.2.2.2.2.2.2.2.2.2.2.2.2.2.1)).bind fun r3=>
 cond (!r3)
 (K ((Tb a.2.2.2.1 (ga a.1) true),a.2.2.2.2.1,1))
 (K ((Tb a.2.2.2.1 (ga a.1) true),a.2.2.2.2.1,0)))
 (K ((Tb a.2.2.2.1 (ga a.1) true),a.2.2.2.2.1,0)))))
def qD:=fun a=>xN a some
def A_:Spec:=C6.sp qD
noncomputable def mae:Env:=⟨fun k=>[].contains k,Cb [(66,x_)],fun X k s K=>none⟩
theorem B_:OK (2) 65 (C6.sp qD):=
 fO (d:=1) (env:=mae) (Aa (cc y_ cn)) (fn:=Tryz.f65) (mc:=@xN) (by intros;simp only [qD,xN,nn]) (za:=[13])
def o6:FS (Int×Int) (Int) where
 sk:=⟨Qi,[],0⟩
 a:=fun u=>(u.1.1,u.1.2.1)
 n:=fun a=>((a.1,(a.2,())),())
 o:=fun Z a r K=>K (.int .i64 r) ⟨[],0⟩
def vV {X:Type} (a:Int×Int) (K:Int->Option X):Option X:=
 K (Ga ((0:Int)-a.1))
def uV:=fun a=>vV a some
def m_:Spec:=o6.sp uV
noncomputable def eae:Env:=⟨fun k=>[].contains k,Cb [],fun X k s K=>none⟩
theorem n_:OK (1) 81 (o6.sp uV):=
 fO (d:=0) (env:=eae) (Aa cn) (fn:=Tryz.f81) (mc:=@vV) (by intros;simp only [uV,vV,nn])
def p6:FS (Int×Int) (Bool) where
 sk:=⟨Qi,[],0⟩
 a:=fun u=>(u.1.1,u.1.2.1)
 n:=fun a=>((a.1,(a.2,())),())
 o:=fun Z a r K=>K (.bool r) ⟨[],0⟩
def CV {X:Type} (a:Int×Int) (K:Bool->Option X):Option X:=
 ask (decide ((0:Int)<=(Gf a.2))) (ask (decide ((0:Int)<=(Gf ((Gf (4 * 2^min (ga (Gf a.2)) 64))-(1:Int))))) (cond (decide ((Ga ((0:Int)-(Ga (1 * 2^min (ga (Gf ((Gf (4 * 2^min (ga (Gf a.2)) 64))-(1:Int)))) 64))))<=a.1))
 (K (decide (a.1<(Ga (1 * 2^min (ga (Gf ((Gf (4 * 2^min (ga (Gf a.2)) 64))-(1:Int)))) 64)))))
 (K false)))
def Wk:=fun a=>CV a some
def Cn:Spec:=p6.sp Wk
noncomputable def fae:Env:=⟨fun k=>[].contains k,Cb [],fun X k s K=>none⟩
theorem Dn:OK (1) 77 (p6.sp Wk):=
 fO (d:=0) (env:=fae) (Aa cn) (fn:=Tryz.f77) (mc:=@CV) (by intros;simp only [Wk,CV,nn])
def l6:FS (Int×Int) (Int) where
 sk:=⟨Qi,[],0⟩
 a:=fun u=>(u.1.1,u.1.2.1)
 n:=fun a=>((a.1,(a.2,())),())
 o:=fun Z a r K=>K (.int .i64 r) ⟨[],0⟩
def tV {X:Type} (a:Int×Int) (K:Int->Option X):Option X:=
 K (if (Ga ((0:Int)-a.1))>a.1 then (Ga ((0:Int)-a.1)) else a.1)
def sV:=fun a=>tV a some
def k_:Spec:=l6.sp sV
noncomputable def dae:Env:=⟨fun k=>[].contains k,Cb [],fun X k s K=>none⟩
theorem l_:OK (1) 82 (l6.sp sV):=
 fO (d:=0) (env:=dae) (Aa cn) (fn:=Tryz.f82) (mc:=@tV) (by intros;simp only [sV,tV,nn])
def j6:FS (Int×Int) (Int) where
 sk:=⟨Qi,[],0⟩
 a:=fun u=>(u.1.1,u.1.2.1)
 n:=fun a=>((a.1,(a.2,())),())
 o:=fun Z a r K=>K (.int .i64 r) ⟨[],0⟩
def rV {X:Type} (a:Int×Int) (K:Int->Option X):Option X:=
 K (Ga (a.1+a.2))
def qV:=fun a=>rV a some
def i_:Spec:=j6.sp qV
noncomputable def cae:Env:=⟨fun k=>[].contains k,Cb [],fun X k s K=>none⟩
theorem j_:OK (1) 83 (j6.sp qV):=
 fO (d:=0) (env:=cae) (Aa cn) (fn:=Tryz.f83) (mc:=@rV) (by intros;simp only [qV,rV,nn])
def Z5:FS (Int×Int) (Int) where
 sk:=⟨Qi,[],0⟩
 a:=fun u=>(u.1.1,u.1.2.1)
 n:=fun a=>((a.1,(a.2,())),())
 o:=fun Z a r K=>K (.int .i64 r) ⟨[],0⟩
def pV {X:Type} (a:Int×Int) (K:Int->Option X):Option X:=
 K (Ga (a.1-a.2))
def oV:=fun a=>pV a some
def g_:Spec:=Z5.sp oV
noncomputable def bae:Env:=⟨fun k=>[].contains k,Cb [],fun X k s K=>none⟩
theorem h_:OK (1) 84 (Z5.sp oV):=
 fO (d:=0) (env:=bae) (Aa cn) (fn:=Tryz.f84) (mc:=@pV) (by intros;simp only [oV,pV,nn])
end
end Go.U
end
