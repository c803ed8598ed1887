/- The functions of the program as Lean functions, and that the evaluator says so. -/
import Derived.Test.YtjenflkegbmkkaaGreatDoorC1
set_option linter.unusedVariables false
set_option linter.unusedSimpArgs false
set_option linter.unusedSectionVars false
open Int renaming toNat→ga
open List renaming length→fa,replicate→Ja,set→Tb
section
set_option maxRecDepth 100000
namespace Go.U
open Go Go.Proofs
noncomputable section
variable {C:V.Callee}
def b7:FS (Unit) (Y2) where
 sk:=⟨.nil,[],0⟩
 a:=fun u=>()
 n:=fun a=>((),())
 o:=fun Z a r K=>K (.agg [.lit zb r.1,.int .i64 0,.int .i64 3,.int .i64 0,.lit Na r.2.1,.lit yb r.2.2.1,.lit Na r.t3.1,.lit ja r.t4]) ⟨[],0⟩
def uX {X:Type} (a:Unit) (K:Y2->Option X):Option X:=
 K (([(17,(0,(0,(0,(0,(0,(1,(-1)))))))),(12,(1,(0,(0,(0,(0,(2,(-1)))))))),(13,(0,(1,(0,(0,(0,(3,(-1)))))))),(1,(2,(0,(0,(3,(0,(4,(-1)))))))),(15,(0,(0,(2,(15,(0,(6,5))))))),(21,(0,(0,(0,(0,(1,((-1),(-1)))))))),(18,(0,(0,(0,(0,(0,(0,(-1))))))))]:List Fb),([((str [115]),(1,((-5),5)))]:List Tc),([((str [120]),(1,0))]:List Wd),[],([(0,0),(0,32)]:List Ra))
def tX:=fun a=>uX a some
def Y_:Spec:=b7.sp tX
noncomputable def zae:Env:=⟨fun k=>[].contains k,Cb [],fun X k s K=>none⟩
theorem Z_:OK (1) 34 (b7.sp tX):=
 fO (d:=0) (env:=zae) (Aa cn) (fn:=Tryz.f34) (mc:=@uX) (by intros;simp only [tX,uX,nn]) (za:=[0]) (sh:=(.agg [(.lit zb),.any,.any,.any,(.lit Na),(.lit yb),(.lit Na),(.lit ja)])) (fz:=true)
def E7:FS (Ba) (Y3) where
 sk:=⟨(.cons (.agg tc) .nil),[],0⟩
 a:=fun u=>(q8 u.1.1)
 n:=fun a=>(((w8 a),()),())
 o:=fun Z a r K=>K (.agg [.all 0,.all 1,.all 2]) ⟨[.cells .bool r.1,.cells (.pair .bool .bool) r.2.1,.cells ja r.2.2],0⟩
def iO {X:Type} (a:Ba) (K:Y3->Option X):Option X:=
 ask (decide (0<=(nt (fa a.1)))&&decide ((nt (fa a.1))<=(nt (fa a.1)))&&decide (1 * (nt (fa a.1))<=70368744177664)&&decide ((nt (fa a.1))<9223372036854775808)) (ask (decide (0<=(nt (fa a.1)))&&decide ((nt (fa a.1))<=(nt (fa a.1)))&&decide (2 * (nt (fa a.1))<=70368744177664)&&decide ((nt (fa a.1))<9223372036854775808)) (K ((Ja (ga (nt (fa a.1))) (false:Bool)),(Ja (ga (nt (fa a.1))) ((false,false):(Bool×Bool))),[])))
def Sr:=fun a=>iO a some
def YF:Spec:=E7.sp Sr
noncomputable def Dae:Env:=⟨fun k=>[].contains k,Cb [],fun X k s K=>none⟩
theorem ZF:OK (1) 14 (E7.sp Sr):=
 fO (d:=0) (env:=Dae) (Aa cn) (fn:=Tryz.f14) (mc:=@iO) (by intros;simp only [Sr,iO,nn]) (za:=[1,2]) (sh:=(.agg [(.own .bool),(.own (.pair .bool .bool)),(.own ja)]))
def J6:FS (Y4) (Y5) where
 sk:=⟨(.cons (.agg tc) (.cons (.lit (.int .i64)) (.cons (.int .i64) .nil))),[],0⟩
 a:=fun u=>((q8 u.1.1),u.1.2.1,u.1.2.2.1)
 n:=fun a=>(((w8 a.1),(a.2.1,(a.2.2,()))),())
 o:=fun Z a r K=>K (.ptr 0 0) ⟨[.fb [.lit zb a.1.1,.int .i64 a.1.2.1,.int .i64 a.1.2.2.1,.int .i64 a.1.t3.1,.lit Na a.1.t4.1,.lit yb a.1.t5.1,.lit Na a.1.t6.1,.lit ja a.1.t7,.lit (.int .i64) a.2.1,.int .i64 r.1,.all 1,.int .i64 0,.int .i64 0,.int .i64 0,.int .i64 0,.int .i64 0,.int .i64 0,.Wa,.all 2,.Wa],.cells (.int .i64) r.2.1,.deep (.int .i64) r.2.2],0⟩
def Dp:LD ((List Wd)×Int×Ba×Ba×(List Int)×Int×Int×Int×Int×Int×Int×Int) (Int×(List Int)) ((List Int)) where
 sk:=⟨[(3,.loc 0 0),(7,.v (.ptr 0 0)),(24,.v (.lit yb)),(25,.v (.int .i64)),(26,.v (.int .i64))],[tc],[.fb (.cons (.lit zb) (.cons (.int .i64) (.cons (.int .i64) (.cons (.int .i64) (.cons (.lit Na) (.cons (.lit yb) (.cons (.lit Na) (.cons (.lit ja) (.cons (.lit (.int .i64)) (.cons (.int .i64) (.cons (.all 1) (.cons (.int .i64) (.cons (.int .i64) (.cons (.int .i64) (.cons (.int .i64) (.cons (.int .i64) (.cons (.int .i64) (.cons .Wa (.cons .Wa (.cons .Wa .nil)))))))))))))))))))),.cells (.int .i64)],0,0⟩
 p:=fun u=>(u.1.2.1,u.1.2.2.1,(q8 u.2.1.1),(q8 u.2.2.1),u.2.2.1.t8.1,u.2.2.1.t9.1,u.2.2.1.t11.1,u.2.2.1.t12.1,u.2.2.1.t13.1,u.2.2.1.t14.1,u.2.2.1.t15.1,u.2.2.1.t16.1)
 t:=fun u=>(u.1.t3.1,u.t3.1)
 n:=fun p t=>(((),(p.1,(p.2.1,(t.1,())))),(((w8 p.2.2.1),()),((p.t3.1.1,(p.t3.1.2.1,(p.t3.1.2.2.1,(p.t3.1.t3.1,(p.t3.1.t4.1,(p.t3.1.t5.1,(p.t3.1.t6.1,(p.t3.1.t7,(p.t4.1,(p.t5.1,((),(p.t6.1,(p.t7.1,(p.t8.1,(p.t9.1,(p.t10.1,(p.t11,((),((),((),())))))))))))))))))))),(t.2,()))))
 st:=fun Y p t ki ke=>cond (decide (t.1<p.2.1))
  (ask (V.va t.1 (fa p.1)) (ask (V.va t.1 (fa t.2)) (ki ((Ga (t.1+(1:Int))),(Tb t.2 (ga t.1) (gx p.1 (ga t.1) Xc).2.2)))))
  (ke (t.2))
 o:=fun Z p e K=>K (.exit 0) ⟨[(3,.loc 0 0),(7,.v (.ptr 0 0))],[[.lit zb p.2.2.1.1,.int .i64 p.2.2.1.2.1,.int .i64 p.2.2.1.2.2.1,.int .i64 p.2.2.1.t3.1,.lit Na p.2.2.1.t4.1,.lit yb p.2.2.1.t5.1,.lit Na p.2.2.1.t6.1,.lit ja p.2.2.1.t7]],⟨[.fb [.lit zb p.t3.1.1,.int .i64 p.t3.1.2.1,.int .i64 p.t3.1.2.2.1,.int .i64 p.t3.1.t3.1,.lit Na p.t3.1.t4.1,.lit yb p.t3.1.t5.1,.lit Na p.t3.1.t6.1,.lit ja p.t3.1.t7,.lit (.int .i64) p.t4.1,.int .i64 p.t5.1,.all 1,.int .i64 p.t6.1,.int .i64 p.t7.1,.int .i64 p.t8.1,.int .i64 p.t9.1,.int .i64 p.t10.1,.int .i64 p.t11,.Wa,.Wa,.Wa],.cells (.int .i64) e],0⟩,0⟩
 Je:=⟨[3,7,24,25,26],[],[],[]⟩
 pe:=[(.exit 0,⟨[3,7],[],[],[]⟩)]
def fl:LD ((List Tc)×Int×Int×Int×Tc×(Ba×((List Int)×(Int×(Int×(Int×(Int×(Int×(Int×(Int×(List Int))))))))))×(List (List Int))) (Int×(List Int)) ((List Int)) where
 sk:=⟨[(7,.v (.ptr 0 0)),(11,.loc 0 0),(12,.v (.all 3)),(41,.v (.lit Na)),(42,.v (.int .i64)),(43,.v (.int .i64)),(51,.v (.int .i64)),(52,.v (.int .i64))],[L8],[.fb kr0,.cells (.int .i64),.deep (.int .i64),.cells (.int .i64)],0,0⟩
 p:=fun u=>(u.1.2.2.1,u.1.t3.1,u.1.t4.1,u.1.t5.1,(q4 u.2.1.1),((q8 u.2.2.1),(u.2.2.1.t8.1,(u.2.2.1.t9.1,(u.2.2.1.t11.1,(u.2.2.1.t12.1,(u.2.2.1.t13.1,(u.2.2.1.t14.1,(u.2.2.1.t15.1,(u.2.2.1.t16.1,u.t3.1))))))))),u.t4.1)
 t:=fun u=>(u.1.t6.1,u.t5.1)
 n:=fun p t=>(((),((),(p.1,(p.2.1,(p.2.2.1,(p.t3.1,(t.1,()))))))),(((w4 p.t4.1),()),((p.t5.1.1.1,(p.t5.1.1.2.1,(p.t5.1.1.2.2.1,(p.t5.1.1.t3.1,(p.t5.1.1.t4.1,(p.t5.1.1.t5.1,(p.t5.1.1.t6.1,(p.t5.1.1.t7,(p.t5.1.2.1,(p.t5.1.2.2.1,((),(p.t5.1.t3.1,(p.t5.1.t4.1,(p.t5.1.t5.1,(p.t5.1.t6.1,(p.t5.1.t7.1,(p.t5.1.t8.1,((),((),((),())))))))))))))))))))),(p.t5.1.t9,(p.t6,(t.2,()))))))
 st:=fun Y p t ki ke=>cond (decide (t.1<p.2.2.2.1))
  (ask (V.va t.1 (fa t.2)) (ki ((Ga (t.1+(1:Int))),(Tb t.2 (ga t.1) p.2.2.2.2.1.2.2.2))))
  (ke (t.2))
 o:=fun Z p e K=>K (.exit 4) ⟨[(7,.v (.ptr 0 0)),(12,.v (.all 3)),(41,.v (.lit Na p.1)),(42,.v (.int .i64 p.2.1)),(43,.v (.int .i64 p.2.2.1))],[],⟨[.fb [.lit zb p.t5.1.1.1,.int .i64 p.t5.1.1.2.1,.int .i64 p.t5.1.1.2.2.1,.int .i64 p.t5.1.1.t3.1,.lit Na p.t5.1.1.t4.1,.lit yb p.t5.1.1.t5.1,.lit Na p.t5.1.1.t6.1,.lit ja p.t5.1.1.t7,.lit (.int .i64) p.t5.1.2.1,.int .i64 p.t5.1.2.2.1,.all 1,.int .i64 p.t5.1.t3.1,.int .i64 p.t5.1.t4.1,.int .i64 p.t5.1.t5.1,.int .i64 p.t5.1.t6.1,.int .i64 p.t5.1.t7.1,.int .i64 p.t5.1.t8.1,.Wa,.all 2,.Wa],.cells (.int .i64) p.t5.1.t9,.deep (.int .i64) p.t6,.cells (.int .i64) e],0⟩,0⟩
 Je:=⟨[7,11,12,41,42,43,51,52],[],[],[]⟩
 pe:=[(.exit 4,⟨[7,12,41,42,43],[],[],[]⟩)]
def Cp:LD ((List Tc)×Int×Ba×(List Int)×Int×Int×Int×Int×Int×Int×Int×(List Int)) (Y6) ((List (List Int))) where
 sk:=⟨[(7,.v (.ptr 0 0)),(41,.v (.lit Na)),(42,.v (.int .i64)),(43,.v (.int .i64))],[],[.fb kr0,.cells (.int .i64),.deep (.int .i64)],0,0⟩
 p:=fun u=>(u.1.2.1,u.1.2.2.1,(q8 u.2.2.1),u.2.2.1.t8.1,u.2.2.1.t9.1,u.2.2.1.t11.1,u.2.2.1.t12.1,u.2.2.1.t13.1,u.2.2.1.t14.1,u.2.2.1.t15.1,u.2.2.1.t16.1,u.t3.1)
 t:=fun u=>(u.1.t3.1,u.t4.1)
 n:=fun p t=>(((),(p.1,(p.2.1,(t.1,())))),((),((p.2.2.1.1,(p.2.2.1.2.1,(p.2.2.1.2.2.1,(p.2.2.1.t3.1,(p.2.2.1.t4.1,(p.2.2.1.t5.1,(p.2.2.1.t6.1,(p.2.2.1.t7,(p.t3.1,(p.t4.1,((),(p.t5.1,(p.t6.1,(p.t7.1,(p.t8.1,(p.t9.1,(p.t10.1,((),((),((),())))))))))))))))))))),(p.t11,(t.2,())))))
 st:=fun Y p t ki ke=>cond (decide (t.1<p.2.1))
  (ask (V.va t.1 (fa p.1)) (ask (decide (0<=(gx p.1 (ga t.1) Bb).2.2.1)&&decide ((gx p.1 (ga t.1) Bb).2.2.1<=(gx p.1 (ga t.1) Bb).2.2.1)&&decide (8 * (gx p.1 (ga t.1) Bb).2.2.1<=70368744177664)&&decide ((gx p.1 (ga t.1) Bb).2.2.1<9223372036854775808)) ((Oa (fl.m (p.1,p.2.1,t.1,(nt (fa (Ja (ga (gx p.1 (ga t.1) Bb).2.2.1) (0:Int)))),(gx p.1 (ga t.1) Bb),p.2.2,t.2)) (0,(Ja (ga (gx p.1 (ga t.1) Bb).2.2.1) (0:Int)))).bind fun e1=>
  ask (decide (((fa t.2)+(fa ([e1]:List (List Int)))) * 24<=70368744177664)&&decide (((fa t.2)+(fa ([e1]:List (List Int))))<9223372036854775808)) (ki ((Ga (t.1+(1:Int))),(t.2++([e1]:List (List Int))))))))
  (ke (t.2))
 o:=fun Z p e K=>K (.exit 2) ⟨[(7,.v (.ptr 0 0))],[],⟨[.fb [.lit zb p.2.2.1.1,.int .i64 p.2.2.1.2.1,.int .i64 p.2.2.1.2.2.1,.int .i64 p.2.2.1.t3.1,.lit Na p.2.2.1.t4.1,.lit yb p.2.2.1.t5.1,.lit Na p.2.2.1.t6.1,.lit ja p.2.2.1.t7,.lit (.int .i64) p.t3.1,.int .i64 p.t4.1,.all 1,.int .i64 p.t5.1,.int .i64 p.t6.1,.int .i64 p.t7.1,.int .i64 p.t8.1,.int .i64 p.t9.1,.int .i64 p.t10.1,.Wa,.all 2,.Wa],.cells (.int .i64) p.t11,.deep (.int .i64) e],0⟩,0⟩
 Je:=⟨[7,41,42,43],[],[],[(0,[.any,.any,.any,.any,.any,.any,.any,.any,.any,.any,.any,.any,.any,.any,.any,.any,.any,.any,(.deep (.int .i64)),.any])]⟩
 pe:=[(.exit 2,⟨[7],[],[],[]⟩)]
def DN {X:Type} (a:Y4) (K:(Y5)->Option X):Option X:=
 ask (decide (0<=a.1.2.2.1)&&decide (a.1.2.2.1<=a.1.2.2.1)&&decide (8 * a.1.2.2.1<=70368744177664)&&decide (a.1.2.2.1<9223372036854775808)) ((Oa (Dp.m (a.1.2.2.2.2.2.1,(nt (fa a.1.2.2.2.2.2.1)),a.1,a.1,a.2.1,(if 0>a.2.2 then 0 else a.2.2),0,0,0,0,0,0)) (0,(Ja (ga a.1.2.2.1) (0:Int)))).bind fun e1=>
 (Oa (Cp.m (a.1.2.2.2.2.2.2.1,(nt (fa a.1.2.2.2.2.2.2.1)),a.1,a.2.1,(if 0>a.2.2 then 0 else a.2.2),0,0,0,0,0,0,e1)) (0,[])).bind fun e2=>
 K ((if 0>a.2.2 then 0 else a.2.2),e1,e2))
def tD:=fun a=>DN a some
def M_:Spec:=J6.sp tD
noncomputable def FA:Env:=⟨fun k=>[].contains k,Cb [],fun X k s K=>if k=3 then Dp.q X s K else if k=12 then fl.q X s K else if k=8 then Cp.q X s K else none⟩
noncomputable def UW:Code:=Lb [1,1,0,1,0,0] (vb Tryz.f55)
theorem BQ (hc:Sa C FA.call):Va FA.loop (vc par C true [3,9,11] 75) (.loop UW):=
 lO hc Dp (by intros;simp only [Dp,LD.m,nn])
noncomputable def CQ:Code:=Lb [1,1,1,0,1,0,0,1,1,0,0,1,1,0,1,0,0] (vb Tryz.f55)
theorem aL (hc:Sa C FA.call):Va FA.loop (vc par C true [3,9,11] 75) (.loop CQ):=
 lO hc fl (by intros;simp only [fl,LD.m,nn])
noncomputable def TW:Code:=Lb [1,1,1,0,1,0,0] (vb Tryz.f55)
theorem AQ (hc:Sa C FA.call):Va FA.loop (vc par C true [3,9,11] 75) (.loop TW):=
 lO hc Cp (by intros;simp only [Cp,LD.m,nn]) (hl:=(Yc (by kernel_rfl) (Db (aL hc) Bc)))
theorem N_:OK (1) 55 (J6.sp tD):=
 fO (d:=0) (env:=FA) (Aa cn) (fn:=Tryz.f55) (mc:=@DN) (by intros;simp only [tD,DN,nn]) (za:=[3,9,11]) (hl:=fun hc=>(Yc (by kernel_rfl) (Db (BQ hc) (Db (AQ hc) Bc))))
def gW:FS (Bool) (Unit) where
 sk:=⟨(.cons (.fn 81 .nil) (.cons .bool .nil)),[],0⟩
 a:=fun u=>u.1.2.1
 n:=fun a=>(((),(a,())),())
 o:=fun Z a r K=>K (.fn 76 [.ptr 0 0,.ptr 1 0]) ⟨[.fb [.fn 81 []],.fb [.bool a]],0⟩
def jW {X:Type} (a:Bool) (K:Unit->Option X):Option X:=
 K ()
def iW:=fun a=>jW a some
def o_:Spec:=gW.sp iW
noncomputable def hae:Env:=⟨fun k=>[].contains k,Cb [],fun X k s K=>none⟩
theorem p_:OK (1) 75 (gW.sp iW):=
 fO (d:=0) (env:=hae) (Aa cn) (fn:=Tryz.f75) (mc:=@jW) (by intros;simp only [iW,jW,nn])
def DF:FS (Bool) (Unit) where
 sk:=⟨(.cons (.fn 82 .nil) (.cons .bool .nil)),[],0⟩
 a:=fun u=>u.1.2.1
 n:=fun a=>(((),(a,())),())
 o:=fun Z a r K=>K (.fn 76 [.ptr 0 0,.ptr 1 0]) ⟨[.fb [.fn 82 []],.fb [.bool a]],0⟩
def FF {X:Type} (a:Bool) (K:Unit->Option X):Option X:=
 K ()
def EF:=fun a=>FF a some
def eW:Spec:=DF.sp EF
noncomputable def y3:Env:=⟨fun k=>[].contains k,Cb [],fun X k s K=>none⟩
theorem fW:OK (1) 75 (DF.sp EF):=
 fO (d:=0) (env:=y3) (Aa cn) (fn:=Tryz.f75) (mc:=@FF) (by intros;simp only [EF,FF,nn])
def AF:FS (Bool) (Unit) where
 sk:=⟨(.cons (.fn 83 .nil) (.cons .bool .nil)),[],0⟩
 a:=fun u=>u.1.2.1
 n:=fun a=>(((),(a,())),())
 o:=fun Z a r K=>K (.fn 76 [.ptr 0 0,.ptr 1 0]) ⟨[.fb [.fn 83 []],.fb [.bool a]],0⟩
def CF {X:Type} (a:Bool) (K:Unit->Option X):Option X:=
 K ()
def BF:=fun a=>CF a some
def cW:Spec:=AF.sp BF
noncomputable def x3:Env:=⟨fun k=>[].contains k,Cb [],fun X k s K=>none⟩
theorem dW:OK (1) 75 (AF.sp BF):=
 fO (d:=0) (env:=x3) (Aa cn) (fn:=Tryz.f75) (mc:=@CF) (by intros;simp only [BF,CF,nn])
def xF:FS (Bool) (Unit) where
 sk:=⟨(.cons (.fn 84 .nil) (.cons .bool .nil)),[],0⟩
 a:=fun u=>u.1.2.1
 n:=fun a=>(((),(a,())),())
 o:=fun Z a r K=>K (.fn 76 [.ptr 0 0,.ptr 1 0]) ⟨[.fb [.fn 84 []],.fb [.bool a]],0⟩
def zF {X:Type} (a:Bool) (K:Unit->Option X):Option X:=
 K ()
def yF:=fun a=>zF a some
def aW:Spec:=xF.sp yF
noncomputable def o3:Env:=⟨fun k=>[].contains k,Cb [],fun X k s K=>none⟩
theorem bW:OK (1) 75 (xF.sp yF):=
 fO (d:=0) (env:=o3) (Aa cn) (fn:=Tryz.f75) (mc:=@zF) (by intros;simp only [yF,zF,nn])
def uF:FS (Bool) (Unit) where
 sk:=⟨(.cons (.fn 85 .nil) (.cons .bool .nil)),[],0⟩
 a:=fun u=>u.1.2.1
 n:=fun a=>(((),(a,())),())
 o:=fun Z a r K=>K (.fn 76 [.ptr 0 0,.ptr 1 0]) ⟨[.fb [.fn 85 []],.fb [.bool a]],0⟩
def wF {X:Type} (a:Bool) (K:Unit->Option X):Option X:=
 K ()
def vF:=fun a=>wF a some
def YV:Spec:=uF.sp vF
noncomputable def Z2:Env:=⟨fun k=>[].contains k,Cb [],fun X k s K=>none⟩
theorem ZV:OK (1) 75 (uF.sp vF):=
 fO (d:=0) (env:=Z2) (Aa cn) (fn:=Tryz.f75) (mc:=@wF) (by intros;simp only [vF,wF,nn])
def rF:FS (Bool) (Unit) where
 sk:=⟨(.cons (.fn 87 .nil) (.cons .bool .nil)),[],0⟩
 a:=fun u=>u.1.2.1
 n:=fun a=>(((),(a,())),())
 o:=fun Z a r K=>K (.fn 76 [.ptr 0 0,.ptr 1 0]) ⟨[.fb [.fn 87 []],.fb [.bool a]],0⟩
def tF {X:Type} (a:Bool) (K:Unit->Option X):Option X:=
 K ()
def sF:=fun a=>tF a some
def WV:Spec:=rF.sp sF
noncomputable def X2:Env:=⟨fun k=>[].contains k,Cb [],fun X k s K=>none⟩
theorem XV:OK (1) 75 (rF.sp sF):=
 fO (d:=0) (env:=X2) (Aa cn) (fn:=Tryz.f75) (mc:=@tF) (by intros;simp only [sF,tF,nn])
def oN:FS (Bool) (Unit) where
 sk:=⟨(.cons (.fn 88 .nil) (.cons .bool .nil)),[],0⟩
 a:=fun u=>u.1.2.1
 n:=fun a=>(((),(a,())),())
 o:=fun Z a r K=>K (.fn 76 [.ptr 0 0,.ptr 1 0]) ⟨[.fb [.fn 88 []],.fb [.bool a]],0⟩
def qF {X:Type} (a:Bool) (K:Unit->Option X):Option X:=
 K ()
def pF:=fun a=>qF a some
def TV:Spec:=oN.sp pF
noncomputable def V2:Env:=⟨fun k=>[].contains k,Cb [],fun X k s K=>none⟩
theorem VV:OK (1) 75 (oN.sp pF):=
 fO (d:=0) (env:=V2) (Aa cn) (fn:=Tryz.f75) (mc:=@qF) (by intros;simp only [pF,qF,nn])
def I6:FS (Unit) (Unit) where
 sk:=⟨.nil,[],0⟩
 a:=fun u=>()
 n:=fun a=>((),())
 o:=fun Z a r K=>K (.agg [.Te,.fn 80 [],.fn 76 [.ptr 0 0,.ptr 1 0],.fn 76 [.ptr 2 0,.ptr 3 0],.fn 76 [.ptr 4 0,.ptr 5 0],.fn 76 [.ptr 6 0,.ptr 7 0],.fn 76 [.ptr 8 0,.ptr 9 0],.fn 86 [],.fn 86 [],.fn 76 [.ptr 10 0,.ptr 11 0],.fn 76 [.ptr 12 0,.ptr 13 0],.fn 89 [],.fn 90 [],.fn 91 [],.fn 92 [],.fn 93 [],.fn 79 [],.fn 94 [],.fn 95 [],.fn 79 [],.fn 96 [],.fn 98 []]) ⟨[.fb [.fn 81 []],.fb [.bool true],.fb [.fn 82 []],.fb [.bool true],.fb [.fn 83 []],.fb [.bool true],.fb [.fn 84 []],.fb [.bool true],.fb [.fn 85 []],.fb [.bool true],.fb [.fn 87 []],.fb [.bool false],.fb [.fn 88 []],.fb [.bool false]],0⟩
def PW {X:Type} (a:Unit) (K:Unit->Option X):Option X:=
 K ()
def OW:=fun a=>PW a some
def K_:Spec:=I6.sp OW
noncomputable def tae:Env:=⟨fun k=>[].contains k,Cb [(75,(alt gW.tk o_ (alt DF.tk eW (alt AF.tk cW (alt xF.tk aW (alt uF.tk YV (alt rF.tk WV TV)))))))],fun X k s K=>none⟩
theorem L_:OK (2) 56 (I6.sp OW):=
 fO (d:=1) (env:=tae) (Aa (cA p_ (cA fW (cA dW (cA bW (cA ZV (cA XV (cc VV cn)))))))) (fn:=Tryz.f56) (mc:=@PW) (by intros;simp only [OW,PW,nn]) (za:=[0])
def B6:FS (Fb×(List Int)) (Bool) where
 sk:=⟨(.cons (.agg Wc) (.cons (.all 0) .nil)),[.cells (.int .i64)],0⟩
 a:=fun u=>((q8 u.1.1),u.2.1)
 n:=fun a=>(((w8 a.1),((),())),(a.2,()))
 o:=fun Z a r K=>K (.bool r) ⟨[.cells (.int .i64) a.2],0⟩
def wN {X:Type} (a:Fb×(List Int)) (K:Bool->Option X):Option X:=
 ask (V.va a.1.2.2.1 (fa a.2)) (ask (V.va a.1.2.2.2.1 (fa a.2)) (cond (decide ((Ga (a.1.2.2.2.2.1-(14:Int)))=(0:Int)))
 (K (decide ((gx a.2 (ga a.1.2.2.1) (0:Int))=(gx a.2 (ga a.1.2.2.2.1) (0:Int)))))
 (cond (decide ((Ga (a.1.2.2.2.2.1-(14:Int)))=(1:Int)))
 (K (!(decide ((gx a.2 (ga a.1.2.2.1) (0:Int))=(gx a.2 (ga a.1.2.2.2.1) (0:Int))))))
 (cond (decide ((Ga (a.1.2.2.2.2.1-(14:Int)))=(2:Int)))
 (K (decide ((gx a.2 (ga a.1.2.2.1) (0:Int))<(gx a.2 (ga a.1.2.2.2.1) (0:Int)))))
 (cond (decide ((Ga (a.1.2.2.2.2.1-(14:Int)))=(3:Int)))
 (K (decide ((gx a.2 (ga a.1.2.2.1) (0:Int))<=(gx a.2 (ga a.1.2.2.2.1) (0:Int)))))
 (cond (decide ((Ga (a.1.2.2.2.2.1-(14:Int)))=(4:Int)))
 (K (decide ((gx a.2 (ga a.1.2.2.2.1) (0:Int))<(gx a.2 (ga a.1.2.2.1) (0:Int)))))
 (cond (decide ((Ga (a.1.2.2.2.2.1-(14:Int)))=(5:Int)))
 (K (decide ((gx a.2 (ga a.1.2.2.2.1) (0:Int))<=(gx a.2 (ga a.1.2.2.1) (0:Int)))))
 (none))))))))
def Bu:=fun a=>wN a some
def x_:Spec:=B6.sp Bu
noncomputable def mae:Env:=⟨fun k=>[].contains k,Cb [],fun X k s K=>none⟩
theorem y_:OK (1) 66 (B6.sp Bu):=
 fO (d:=0) (env:=mae) (Aa cn) (fn:=Tryz.f66) (mc:=@wN) (by intros;simp only [Bu,wN,nn]) (za:=[2])
def C6:FS (Y7) (Y8) where
 sk:=⟨(.cons (.int .i64) (.cons (.all 7) (.cons (.all 8) (.cons (.int .i64) (.cons (.ptr 0 0) (.cons (.ptr 1 0) (.cons (.ptr 5 0) (.cons (.ptr 6 0) .nil)))))))),[.fb (.cons (.int .i64) .nil),.fb K8,.cells .bool,.cells (.pair .bool .bool),.cells ja,.fb (.cons (.int .i64) .nil),.fb tc,.cells (.int .i64),.deep (.int .i64)],0⟩
 a:=fun u=>(u.1.1,u.1.t3.1,u.2.1.1,u.t3.1,u.t4.1,u.t5.1,u.t6.1.1,u.t7.1.1,u.t7.1.2.1,u.t7.1.2.2.1,u.t7.1.t3.1,u.t7.1.t4.1,u.t7.1.t5.1,u.t7.1.t6.1,u.t7.1.t7.1,u.t8.1,u.t9.1)
 n:=fun a=>((a.1,((),((),(a.2.1,((),((),((),((),())))))))),((a.2.2.1,()),(((),((),((),()))),(a.t3.1,(a.t4.1,(a.t5.1,((a.t6.1,()),((a.t7.1,(a.t8.1,(a.t9.1,(a.t10.1,(a.t11.1,(a.t12.1,(a.t13.1,(a.t14.1,())))))))),(a.t15.1,(a.t16,()))))))))))
 o:=fun Z a r K=>K (.bool true) ⟨[.fb [.int .i64 a.1],.fb [.all 2,.all 3,.all 4],.cells .bool r.1,.cells (.pair .bool .bool) r.2.1,.cells ja a.t5.1,.fb [.int .i64 r.2.2],.fb [.lit zb a.t7.1,.int .i64 a.t8.1,.int .i64 a.t9.1,.int .i64 a.t10.1,.lit Na a.t11.1,.lit yb a.t12.1,.lit Na a.t13.1,.lit ja a.t14.1],.cells (.int .i64) a.t15.1,.deep (.int .i64) a.t16],0⟩
def xN {X:Type} (a:Y7) (K:Y8->Option X):Option X:=
 cond (decide ((0:Int)<=a.2.2.1))
 (ask (V.va a.2.2.1 (fa a.2.2.2.2.1)) (cond (decide (a.2.2.2.2.2.2.1=(0:Int)))
 (ask (V.va a.1 (fa a.2.2.2.1)) (ask (V.va a.1 (fa a.2.2.2.2.2.2.2.1)) (cond (decide ((gx a.2.2.2.2.2.2.2.1 (ga a.1) Ta).1=(15:Int)))
 ((Bu ((gx a.2.2.2.2.2.2.2.1 (ga a.1) Ta),a.2.2.2.2.2.2.2.2.2.2.2.2.2.2.2.1)).bind fun r1=>
 cond (!r1)
 (K ((Tb a.2.2.2.1 (ga a.1) true),(Tb a.2.2.2.2.1 (ga a.2.2.1) (true,(gx a.2.2.2.2.1 (ga a.2.2.1) (false,false)).2)),1))
 (K ((Tb a.2.2.2.1 (ga a.1) true),(Tb a.2.2.2.2.1 (ga a.2.2.1) (true,(gx a.2.2.2.2.1 (ga a.2.2.1) (false,false)).2)),0)))
 (K ((Tb a.2.2.2.1 (ga a.1) true),(Tb a.2.2.2.2.1 (ga a.2.2.1) (true,(gx a.2.2.2.2.1 (ga a.2.2.1) (false,false)).2)),0)))))
 (cond (decide (a.2.2.2.2.2.2.1=(1:Int)))
 (ask (V.va a.1 (fa a.2.2.2.1)) (ask (V.va a.1 (fa a.2.2.2.2.2.2.2.1)) (cond (decide ((gx a.2.2.2.2.2.2.2.1 (ga a.1) Ta).1=(15:Int)))
 ((Bu ((gx a.2.2.2.2.2.2.2.1 (ga a.1) Ta),a.2.2.2.2.2.2.2.2.2.2.2.2.2.2.2.1)).bind fun r2=>
 cond (!r2)
 (K ((Tb a.2.2.2.1 (ga a.1) true),(Tb a.2.2.2.2.1 (ga a.2.2.1) ((gx a.2.2.2.2.1 (ga a.2.2.1) (false,false)).1,true)),1))
 (K ((Tb a.2.2.2.1 (ga a.1) true),(Tb a.2.2.2.2.1 (ga a.2.2.1) ((gx a.2.2.2.2.1 (ga a.2.2.1) (false,false)).1,true)),0)))
 (K ((Tb a.2.2.2.1 (ga a.1) true),(Tb a.2.2.2.2.1 (ga a.2.2.1) ((gx a.2.2.2.2.1 (ga a.2.2.1) (false,false)).1,true)),0)))))
 (none))))
 (ask (V.va a.1 (fa a.2.2.2.1)) (ask (V.va a.1 (fa a.2.2.2.2.2.2.2.1)) (cond (decide ((gx a.2.2.2.2.2.2.2.1 (ga a.1) Ta).1=(15:Int)))
 ((Bu ((gx a.2.2.2.2.2.2.2.1 (ga a.1) Ta),a.2.2.2.2.2.2.2.2.2.2.2.2.2.2.2.1)).bind fun r3=>
 cond (!r3)
 (K ((Tb a.2.2.2.1 (ga a.1) true),a.2.2.2.2.1,1))
 (K ((Tb a.2.2.2.1 (ga a.1) true),a.2.2.2.2.1,0)))
 (K ((Tb a.2.2.2.1 (ga a.1) true),a.2.2.2.2.1,0)))))
def rD:=fun a=>xN a some
def A_:Spec:=C6.sp rD
noncomputable def nae:Env:=⟨fun k=>[].contains k,Cb [(66,x_)],fun X k s K=>none⟩
theorem B_:OK (2) 65 (C6.sp rD):=
 fO (d:=1) (env:=nae) (Aa (cc y_ cn)) (fn:=Tryz.f65) (mc:=@xN) (by intros;simp only [rD,xN,nn]) (za:=[13])
def o6:FS (Int×Int) (Int) where
 sk:=⟨Qi,[],0⟩
 a:=fun u=>(u.1.1,u.1.2.1)
 n:=fun a=>((a.1,(a.2,())),())
 o:=fun Z a r K=>K (.int .i64 r) ⟨[],0⟩
def wV {X:Type} (a:Int×Int) (K:Int->Option X):Option X:=
 K (Ga ((0:Int)-a.1))
def vV:=fun a=>wV a some
def m_:Spec:=o6.sp vV
noncomputable def fae:Env:=⟨fun k=>[].contains k,Cb [],fun X k s K=>none⟩
theorem n_:OK (1) 81 (o6.sp vV):=
 fO (d:=0) (env:=fae) (Aa cn) (fn:=Tryz.f81) (mc:=@wV) (by intros;simp only [vV,wV,nn])
def p6:FS (Int×Int) (Bool) where
 sk:=⟨Qi,[],0⟩
 a:=fun u=>(u.1.1,u.1.2.1)
 n:=fun a=>((a.1,(a.2,())),())
 o:=fun Z a r K=>K (.bool r) ⟨[],0⟩
def DV {X:Type} (a:Int×Int) (K:Bool->Option X):Option X:=
 ask (decide ((0:Int)<=(Gf a.2))) (ask (decide ((0:Int)<=(Gf ((Gf (4 * 2^min (ga (Gf a.2)) 64))-(1:Int))))) (cond (decide ((Ga ((0:Int)-(Ga (1 * 2^min (ga (Gf ((Gf (4 * 2^min (ga (Gf a.2)) 64))-(1:Int)))) 64))))<=a.1))
 (K (decide (a.1<(Ga (1 * 2^min (ga (Gf ((Gf (4 * 2^min (ga (Gf a.2)) 64))-(1:Int)))) 64)))))
 (K false)))
def Xk:=fun a=>DV a some
def Bn:Spec:=p6.sp Xk
noncomputable def gae:Env:=⟨fun k=>[].contains k,Cb [],fun X k s K=>none⟩
theorem Cn:OK (1) 77 (p6.sp Xk):=
 fO (d:=0) (env:=gae) (Aa cn) (fn:=Tryz.f77) (mc:=@DV) (by intros;simp only [Xk,DV,nn])
def l6:FS (Int×Int) (Int) where
 sk:=⟨Qi,[],0⟩
 a:=fun u=>(u.1.1,u.1.2.1)
 n:=fun a=>((a.1,(a.2,())),())
 o:=fun Z a r K=>K (.int .i64 r) ⟨[],0⟩
def uV {X:Type} (a:Int×Int) (K:Int->Option X):Option X:=
 K (if (Ga ((0:Int)-a.1))>a.1 then (Ga ((0:Int)-a.1)) else a.1)
def tV:=fun a=>uV a some
def k_:Spec:=l6.sp tV
noncomputable def eae:Env:=⟨fun k=>[].contains k,Cb [],fun X k s K=>none⟩
theorem l_:OK (1) 82 (l6.sp tV):=
 fO (d:=0) (env:=eae) (Aa cn) (fn:=Tryz.f82) (mc:=@uV) (by intros;simp only [tV,uV,nn])
def j6:FS (Int×Int) (Int) where
 sk:=⟨Qi,[],0⟩
 a:=fun u=>(u.1.1,u.1.2.1)
 n:=fun a=>((a.1,(a.2,())),())
 o:=fun Z a r K=>K (.int .i64 r) ⟨[],0⟩
def sV {X:Type} (a:Int×Int) (K:Int->Option X):Option X:=
 K (Ga (a.1+a.2))
def rV:=fun a=>sV a some
def i_:Spec:=j6.sp rV
noncomputable def dae:Env:=⟨fun k=>[].contains k,Cb [],fun X k s K=>none⟩
theorem j_:OK (1) 83 (j6.sp rV):=
 fO (d:=0) (env:=dae) (Aa cn) (fn:=Tryz.f83) (mc:=@sV) (by intros;simp only [rV,sV,nn])
def Z5:FS (Int×Int) (Int) where
 sk:=⟨Qi,[],0⟩
 a:=fun u=>(u.1.1,u.1.2.1)
 n:=fun a=>((a.1,(a.2,())),())
 o:=fun Z a r K=>K (.int .i64 r) ⟨[],0⟩
def qV {X:Type} (a:Int×Int) (K:Int->Option X):Option X:=
 K (Ga (a.1-a.2))
def pV:=fun a=>qV a some
def g_:Spec:=Z5.sp pV
noncomputable def cae:Env:=⟨fun k=>[].contains k,Cb [],fun X k s K=>none⟩
theorem h_:OK (1) 84 (Z5.sp pV):=
 fO (d:=0) (env:=cae) (Aa cn) (fn:=Tryz.f84) (mc:=@qV) (by intros;simp only [pV,qV,nn])
end
end Go.U
end
