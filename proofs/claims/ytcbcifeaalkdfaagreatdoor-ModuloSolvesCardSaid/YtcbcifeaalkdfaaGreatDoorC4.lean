/- The functions of the program as Lean functions, and that the evaluator says so. -/
import Derived.Test.YtcbcifeaalkdfaaGreatDoorC3
set_option linter.unusedVariables false
set_option linter.unusedSimpArgs false
set_option linter.unusedSectionVars false
open Int renaming toNat→ia
open List renaming length→fa,set→Wb,replicate→fb
section
set_option maxRecDepth 100000
namespace Go.U
open Go Go.Proofs
noncomputable section
variable {C:V.Callee}
def Nad:FS (Y9) (Ga×(List (Int×ga)))where
 sk:=⟨(cL [(.ptr 0 0),(.agg Sc),.i,(.agg (cL [.bool,(.all 4),(.all 5)]))]),[.Ee vO,.Pe .i true Vd,.Pe .i true Ma,.Jg .i [((2:Int),(.fn 85 .nil)),((3:Int),(.fn 87 .nil)),((4:Int),(.fn 89 .nil)),((5:Int),(.fn 90 .nil)),((6:Int),(.fn 91 .nil)),((7:Int),(.fn 92 .nil)),((8:Int),(.fn 93 .nil)),((9:Int),(.fn 83 .nil)),((10:Int),(.fn 83 .nil))],.cells Ma,.cells Ma],0⟩
 a:=λu=>((q8 u.1.2.1),u.1.2.2.1,u.1.t3.1.1,(q8 u.2.1),(q3 u.2.1.t8),u.2.2.1,u.t3.1,u.t5.1,u.t6.1)
 o:=λZ a r K=>kv K (.agg Mb) [.Ee vO,.Pe .i true Vd,.Pe .i true Ma,.Jg .i [((2:Int),(.fn 85 .nil)),((3:Int),(.fn 87 .nil)),((4:Int),(.fn 89 .nil)),((5:Int),(.fn 90 .nil)),((6:Int),(.fn 91 .nil)),((7:Int),(.fn 92 .nil)),((8:Int),(.fn 93 .nil)),((9:Int),(.fn 83 .nil)),((10:Int),(.fn 83 .nil))],.dead,.dead] 0 (r.1.1,r.1.2.1,r.1.2.2,()) ((r7 a.t3.1 (a.t3.1.t7,a.t4.1.1,a.t4.1.2.1,a.t4.1.2.2,(),(),(),())),a.t5.1,r.2,((),(),(),(),(),(),(),(),(),()),(),(),())
abbrev Vj:LD (Int×Int×Bool×Bool×(ga×ga)×Ba×Ga×(List (Int×Lb))×(List (Int×ga))×(List ga)) (Int×(List ga)) (((List ga)) ⊕ ((List ga)))where
 sk:=⟨[(0,.p 0 0),(7,.loc 0 0),(8,.loc 1 0),(10,.loc 2 0),(11,.loc 3 0),(44,.v (.agg Ag)),(45,.i)],[(cL [.bool,(.all 4),(.all 5)]),(cL [.bool,.Xa,.Xa]),La,La],[.Ee vO,.Pe .i true Vd,.Pe .i true Ma,.Jg .i [((2:Int),(.fn 85 .nil)),((3:Int),(.fn 87 .nil)),((4:Int),(.fn 89 .nil)),((5:Int),(.fn 90 .nil)),((6:Int),(.fn 91 .nil)),((7:Int),(.fn 92 .nil)),((8:Int),(.fn 93 .nil)),((9:Int),(.fn 83 .nil)),((10:Int),(.fn 83 .nil))],.cells Ma,.cells Ma],0,6⟩
 p:=λu=>(u.1.2.1.1,u.1.2.1.2.1,u.2.1.1.1,u.2.1.2.1.1,((q3 u.2.1.2.2.1),(q3 u.2.1.t3.1)),(q8 u.2.2.1),(q3 u.2.2.1.t8),u.t3.1,u.t4.1,u.t7.1)
 t:=λu=>(u.1.2.2.1,u.t6.1)
 n:=λp t=>(((),(p.1,p.2.1,()),t.1,()),((p.2.2.1,(),(),()),(p.t3.1,(),(),()),(p.t4.1.1.1,p.t4.1.1.2.1,p.t4.1.1.2.2,()),(p.t4.1.2.1,p.t4.1.2.2.1,p.t4.1.t3,()),()),(r7 p.t5.1 (p.t5.1.t7,p.t6.1.1,p.t6.1.2.1,p.t6.1.2.2,(),(),(),())),p.t7.1,p.t8.1,((),(),(),(),(),(),(),(),(),()),t.2,p.t9,())
 st:=λY p t ki ke=>let zA:=ia p.2.1
  let zB:=ia p.1
  let zC:=Ka (t.1+(1:Int))
  let zD:=fa t.2
  let zE:=decide (t.1=(0:Int))
  let zF:=decide (t.1=(1:Int))
  let zG:=nt (fa p.2.2.2.2.2.1.2.2.2.2.2.1)
  cond (decide (t.1<(2:Int)))
  (cond zE
  (cond (decide (p.1<zG))
  (ask (V.ua p.1 zD) (cond zE
  ((Bj ((gx t.2 zB Aa),p.2.2.2.2.1.1)).bind λr1=>
  ask (V.ua p.1 zD) (ask (V.ua p.1 (fa (Wb t.2 zB r1))) (cond (gx (Wb t.2 zB r1) zB Aa).1
  (ke (.inl (Wb t.2 zB r1)))
  (ki (zC,(Wb t.2 zB r1))))))
  (cond zF
  ((Bj ((gx t.2 zB Aa),p.2.2.2.2.1.2)).bind λr2=>
  ask (V.ua p.1 zD) (ask (V.ua p.1 (fa (Wb t.2 zB r2))) (cond (gx (Wb t.2 zB r2) zB Aa).1
  (ke (.inl (Wb t.2 zB r2)))
  (ki (zC,(Wb t.2 zB r2))))))
  (none))))
  (ki (zC,t.2)))
  (cond zF
  (cond (decide (p.2.1<zG))
  (ask (V.ua p.2.1 zD) (cond zE
  ((Bj ((gx t.2 zA Aa),p.2.2.2.2.1.1)).bind λr3=>
  ask (V.ua p.2.1 zD) (ask (V.ua p.2.1 (fa (Wb t.2 zA r3))) (cond (gx (Wb t.2 zA r3) zA Aa).1
  (ke (.inl (Wb t.2 zA r3)))
  (ki (zC,(Wb t.2 zA r3))))))
  (cond zF
  ((Bj ((gx t.2 zA Aa),p.2.2.2.2.1.2)).bind λr4=>
  ask (V.ua p.2.1 zD) (ask (V.ua p.2.1 (fa (Wb t.2 zA r4))) (cond (gx (Wb t.2 zA r4) zA Aa).1
  (ke (.inl (Wb t.2 zA r4)))
  (ki (zC,(Wb t.2 zA r4))))))
  (none))))
  (ki (zC,t.2)))
  (none)))
  (ke (.inr (t.2)))
 o:=λZ p e K=>Sum.elim (λe=>so K (.ret) ⟨[(8,.loc 0 0)],[(cL [.bool,.Xa,.Xa])],[.Ee vO,.Pe .i true Vd,.Pe .i true Ma,.Jg .i [((2:Int),(.fn 85 .nil)),((3:Int),(.fn 87 .nil)),((4:Int),(.fn 89 .nil)),((5:Int),(.fn 90 .nil)),((6:Int),(.fn 91 .nil)),((7:Int),(.fn 92 .nil)),((8:Int),(.fn 93 .nil)),((9:Int),(.fn 83 .nil)),((10:Int),(.fn 83 .nil))],.cells Ma,.cells Ma],0,6⟩ ((),((false,(),(),()),()),(r7 p.t5.1 (p.t5.1.t7,p.t6.1.1,p.t6.1.2.1,p.t6.1.2.2,(),(),(),())),p.t7.1,p.t8.1,((),(),(),(),(),(),(),(),(),()),e,p.t9,())) (λe=>so K (.exit 0) ⟨[(7,.loc 0 0),(8,.loc 1 0)],[(cL [.bool,(.all 4),(.all 5)]),(cL [.bool,.Xa,.Xa])],[.Ee vO,.Pe .i true Vd,.Pe .i true Ma,.Jg .i [((2:Int),(.fn 85 .nil)),((3:Int),(.fn 87 .nil)),((4:Int),(.fn 89 .nil)),((5:Int),(.fn 90 .nil)),((6:Int),(.fn 91 .nil)),((7:Int),(.fn 92 .nil)),((8:Int),(.fn 93 .nil)),((9:Int),(.fn 83 .nil)),((10:Int),(.fn 83 .nil))],.cells Ma,.cells Ma],0,6⟩ ((),((p.2.2.1,(),(),()),(p.t3.1,(),(),()),()),(r7 p.t5.1 (p.t5.1.t7,p.t6.1.1,p.t6.1.2.1,p.t6.1.2.2,(),(),(),())),p.t7.1,p.t8.1,((),(),(),(),(),(),(),(),(),()),e,p.t9,())) e
 ve:=⟨[0,7,8,10,11,44,45],[],[],[]⟩
 pe:=[(.ret,⟨[8],[],[],[]⟩),(.exit 0,⟨[7,8],[],[],[]⟩)]
def tT{X:Type}(a:Y9)(K:(Ga×(List (Int×ga)))->Option X):Option X:=
 cond (decide (a.2.1=(1:Int)))
 ((UE a.1.2.2.2.2.1).bind λr1=>
 (sg.m (a.1.2.2.1,a.2.2.2.1,a.2.2.2.2.1,a.2.2.2.2.2.1,a.2.2.2.2.2.2.1)).bind λr2=>
 (sg.m (a.1.2.2.2.1,a.2.2.2.1,a.2.2.2.2.1,a.2.2.2.2.2.1,r2.2)).bind λr3=>
 (Kr (r1,r2.1,r3.1)).bind λr4=>
 cond r4.1.1
 (cond r4.2.1
 (K ((false,([],[])),r3.2))
 ((Ua (Vj.m (a.1.2.2.1,a.1.2.2.2.1,a.2.2.1,false,r4,a.2.2.2.1,a.2.2.2.2.1,a.2.2.2.2.2.1,r3.2,a.2.2.2.2.2.2.2.2)) (0,a.2.2.2.2.2.2.2.1)).bind λe5=>
 Sum.elim (λe6=>K ((false,([],[])),r3.2))
 (λe7=>K ((a.2.2.1,(e7,a.2.2.2.2.2.2.2.2)),r3.2)) e5))
 ((Ua (Vj.m (a.1.2.2.1,a.1.2.2.2.1,a.2.2.1,false,r4,a.2.2.2.1,a.2.2.2.2.1,a.2.2.2.2.2.1,r3.2,a.2.2.2.2.2.2.2.2)) (0,a.2.2.2.2.2.2.2.1)).bind λe8=>
 Sum.elim (λe9=>K ((false,([],[])),r3.2))
 (λCu=>K ((a.2.2.1,(Cu,a.2.2.2.2.2.2.2.2)),r3.2)) e8))
 ((sg.m (a.1.2.2.1,a.2.2.2.1,a.2.2.2.2.1,a.2.2.2.2.2.1,a.2.2.2.2.2.2.1)).bind λHR=>
 (sg.m (a.1.2.2.2.1,a.2.2.2.1,a.2.2.2.2.1,a.2.2.2.2.2.1,HR.2)).bind λmI=>
 (Kr (a.1.2.2.2.2.1,HR.1,mI.1)).bind λRX=>
 cond RX.1.1
 (cond RX.2.1
 (K ((false,([],[])),mI.2))
 ((Ua (Vj.m (a.1.2.2.1,a.1.2.2.2.1,a.2.2.1,false,RX,a.2.2.2.1,a.2.2.2.2.1,a.2.2.2.2.2.1,mI.2,a.2.2.2.2.2.2.2.2)) (0,a.2.2.2.2.2.2.2.1)).bind λGN=>
 Sum.elim (λe15=>K ((false,([],[])),mI.2))
 (λe16=>K ((a.2.2.1,(e16,a.2.2.2.2.2.2.2.2)),mI.2)) GN))
 ((Ua (Vj.m (a.1.2.2.1,a.1.2.2.2.1,a.2.2.1,false,RX,a.2.2.2.1,a.2.2.2.2.1,a.2.2.2.2.2.1,mI.2,a.2.2.2.2.2.2.2.2)) (0,a.2.2.2.2.2.2.2.1)).bind λe17=>
 Sum.elim (λe18=>K ((false,([],[])),mI.2))
 (λe19=>K ((a.2.2.1,(e19,a.2.2.2.2.2.2.2.2)),mI.2)) e17))
def oH:=λa=>tT a some
def Uah:Spec:=Nad.sp oH
noncomputable def Oad:Env:=eE [] (Ra [(100,Aab),(47,nv),(101,xab),(102,zU)]) (qL 8 Vj.q qN)
theorem xW:LL C Oad [5,7,8,10,11,1000025,1000029] Tryz.f52 607:=λhc=>
 lO hc Vj
theorem Vah:OK (166020696663385964545) 52 (Nad.sp oH):=
 fO (env:=Oad) (za (cc Bab (cc pP (cc yab (cc AU cn))))) (fn:=Tryz.f52) (mc:=@tT) (by intros;simp only[oH,tT,nn]) (Ca:=[5,7,8,10,11,1000025,1000029]) (sh:=(.kill [4,5] (.agg [.any,(.lit Ma),(.lit Ma)]))) (fz:=true) (hl:=λhc=>(Vi (Ta (xW hc) fc)))
def xae:FS (Y10) (Ga)where
 sk:=⟨(.cons (.agg Va) (.cons (.agg Mb) Ag)),[],0⟩
 a:=λu=>((q8 u.1.1),(q3 u.1.2.1),u.1.2.2.1,u.1.t3.1)
 o:=λZ a r K=>kv K (.agg Mb) [] 0 (r.1,r.2.1,r.2.2,()) ()
def Dz:PD (Kd×Ba×Ga×Bool) (Bool)where
 sk:=⟨[(2,.i),(3,.i),(4,.loc 0 0),(5,.loc 1 0),(8,.loc 2 0)],[Va,Mb,(cL [.bool,.Xa,.Xa])],[],0,0⟩
 p:=λu=>((u.1.1,u.1.2.1),(q8 u.2.1.1),(q3 u.2.1.2.1),u.2.1.2.2.1.1)
 st:=λY p ke=>cond (!p.2.2.1.1)
  (ke (true))
  (cond (decide (p.1.2<(0:Int)))
  (ke (true))
  (cond (decide ((1:Int)<p.1.2))
  (ke (true))
  (ask (V.ua p.1.1 (fa p.2.1.1)) (cond (decide (p.1.2=(0:Int)))
  (ke ((decide ((gx p.2.1.1 (ia p.1.1) Pb).2.2.2.2.2.2.1=(-1:Int)))))
  (cond (decide (p.1.2=(1:Int)))
  (ke ((decide ((gx p.2.1.1 (ia p.1.1) Pb).2.2.2.2.2.2.2=(-1:Int)))))
  (none))))))
 o:=λZ p e K=>so K (.normal) ⟨[(2,.i),(3,.i),(4,.loc 0 0),(5,.loc 1 0),(8,.loc 2 0),(35,.v .bool)],[Va,Mb,(cL [.bool,.Xa,.Xa])],[],0,0⟩ ((p.1.1,p.1.2,e,()),((r7 p.2.1 (p.2.1.t7,())),(p.2.2.1.1,p.2.2.1.2.1,p.2.2.1.2.2,()),(p.t3,(),(),()),()),())
 ve:=⟨[2,3,4,5,8],[],[],[]⟩
 pe:=[(.normal,⟨[2,3,4,5,8,35],[],[],[]⟩)]
def Cz:PD (Int×Ba×Bool×Lb×Bool×Ba×Ga×(Y4)×(Y3)) (Bool)where
 sk:=⟨[(3,.i),(4,.loc 0 0),(8,.loc 1 0),(9,.p 0 0),(10,.loc 2 0),(11,.loc 3 0)],[Va,(cL [.bool,.Xa,.Xa]),Sc,(cL [.bool,(.all 4),(.all 5)])],[.Ee vO,.Pe .i true Vd,.Pe .i true Ma,.Jg .i [((2:Int),(.fn 85 .nil)),((3:Int),(.fn 87 .nil)),((4:Int),(.fn 89 .nil)),((5:Int),(.fn 90 .nil)),((6:Int),(.fn 91 .nil)),((7:Int),(.fn 92 .nil)),((8:Int),(.fn 93 .nil)),((9:Int),(.fn 83 .nil)),((10:Int),(.fn 83 .nil))],.cells Ma,.cells Ma],0,0⟩
 p:=λu=>(u.1.1,(q8 u.2.1.1),u.2.1.2.1.1,(q8 u.2.1.2.2.1),u.2.1.t3.1.1,(q8 u.2.2.1),(q3 u.2.2.1.t8),(u.t3.1,u.t4.1),u.t6.1,u.t7.1)
 st:=λY p ke=>cond (decide ((2:Int)<=p.2.2.2.1.1))
  (ke ((decide (p.2.2.2.1.1<=(8:Int)))))
  (ke (false))
 o:=λZ p e K=>so K (.normal) ⟨[(3,.i),(4,.loc 0 0),(8,.loc 1 0),(9,.p 0 0),(10,.loc 2 0),(11,.loc 3 0),(47,.v .bool)],[Va,(cL [.bool,.Xa,.Xa]),Sc,(cL [.bool,(.all 4),(.all 5)])],[.Ee vO,.Pe .i true Vd,.Pe .i true Ma,.Jg .i [((2:Int),(.fn 85 .nil)),((3:Int),(.fn 87 .nil)),((4:Int),(.fn 89 .nil)),((5:Int),(.fn 90 .nil)),((6:Int),(.fn 91 .nil)),((7:Int),(.fn 92 .nil)),((8:Int),(.fn 93 .nil)),((9:Int),(.fn 83 .nil)),((10:Int),(.fn 83 .nil))],.cells Ma,.cells Ma],0,0⟩ ((p.1,(),e,()),((r7 p.2.1 (p.2.1.t7,())),(p.2.2.1,(),(),()),(r7 p.t3.1 (p.t3.1.t7,())),(p.t4.1,(),(),()),()),(r7 p.t5.1 (p.t5.1.t7,p.t6.1.1,p.t6.1.2.1,p.t6.1.2.2,(),(),(),())),p.t7.1.1,p.t7.1.2,((),(),(),(),(),(),(),(),(),()),p.t8.1,p.t9,())
 ve:=⟨[3,4,8,9,10,11],[],[],[]⟩
 pe:=[(.normal,⟨[3,4,8,9,10,11,47],[],[],[]⟩)]
def Ax:PD (Bool×Bool×Lb×Bool×ga×((List ga)×(List ga))) (Bool×Int×Int)where
 sk:=⟨[(8,.loc 0 0),(10,.loc 1 0),(11,.loc 2 0),(13,.loc 3 0),(113,.v .bool)],[(cL [.bool,.Xa,.Xa]),Sc,(cL [.bool,(.all 0),(.all 1)]),La],[.cells Ma,.cells Ma],0,0⟩
 p:=λu=>(u.1.1,u.2.1.1.1,(q8 u.2.1.2.1),u.2.1.2.2.1.1,(q3 u.2.1.t3.1),u.2.2.1,u.t3.1)
 st:=λY p ke=>cond p.1
  (ask (V.ua p.2.2.1.2.2.1 (fa p.2.2.2.2.2.2)) ((yu ((gx p.2.2.2.2.2.2 (ia p.2.2.1.2.2.1) Aa),p.2.2.2.2.1)).bind λr1=>
  ke ((r1.1,r1.2.1,r1.2.2))))
  (ke ((p.2.2.2.2.1.1,p.2.2.2.2.1.2.1,p.2.2.2.2.1.2.2)))
 o:=λZ p e K=>so K (.normal) ⟨[(8,.loc 0 0),(10,.loc 1 0),(11,.loc 2 0),(13,.loc 3 0)],[(cL [.bool,.Xa,.Xa]),Sc,(cL [.bool,(.all 0),(.all 1)]),La],[.cells Ma,.cells Ma],0,0⟩ ((),((p.2.1,(),(),()),(r7 p.2.2.1 (p.2.2.1.t7,())),(p.t3.1,(),(),()),(e.1,e.2.1,e.2.2,()),()),p.t5.1,p.t6,())
 ve:=⟨[8,10,11,13,113],[],[],[]⟩
 pe:=[(.normal,⟨[8,10,11,13],[],[],[]⟩)]
def Bx:PD (Int×Bool×(Ba×(Bool×(Lb×(Bool×(Ba×(Ga×((Y4)×(Y3))))))))) ((Y11) ⊕ ((List ga)))where
 sk:=⟨[(3,.i),(4,.loc 0 0),(8,.loc 1 0),(9,.p 0 0),(10,.loc 2 0),(11,.loc 3 0),(87,.v .bool)],[Va,(cL [.bool,.Xa,.Xa]),Sc,(cL [.bool,(.all 4),(.all 5)])],[.Ee vO,.Pe .i true Vd,.Pe .i true Ma,.Jg .i [((2:Int),(.fn 85 .nil)),((3:Int),(.fn 87 .nil)),((4:Int),(.fn 89 .nil)),((5:Int),(.fn 90 .nil)),((6:Int),(.fn 91 .nil)),((7:Int),(.fn 92 .nil)),((8:Int),(.fn 93 .nil)),((9:Int),(.fn 83 .nil)),((10:Int),(.fn 83 .nil))],.cells Ma,.cells Ma],0,0⟩
 p:=λu=>(u.1.1,u.1.2.2.1,(q8 u.2.1.1),(u.2.1.2.1.1,((q8 u.2.1.2.2.1),(u.2.1.t3.1.1,((q8 u.2.2.1),((q3 u.2.2.1.t8),((u.t3.1,u.t4.1),(u.t6.1,u.t7.1))))))))
 st:=λY p ke=>cond p.2.1
  ((sg.m (p.2.2.2.2.1.2.1,p.2.2.2.2.2.2.1,p.2.2.2.2.2.2.2.1,p.2.2.2.2.2.2.2.2.1.1,p.2.2.2.2.2.2.2.2.1.2)).bind λr1=>
  ask (V.ua p.2.2.2.2.1.2.2.1 (fa p.2.2.1.2.2.2.2.2.2.1)) ((OD (r1.1,(gx p.2.2.1.2.2.2.2.2.2.1 (ia p.2.2.2.2.1.2.2.1) Ob).2.1)).bind λr2=>
  cond r2.1
  (ke (.inl (false,[],[])))
  (ask (V.ua p.2.2.2.2.1.2.2.1 (fa p.2.2.1.2.2.2.2.2.2.1)) ((Ax.m ((decide ((1:Int)<(gx p.2.2.1.2.2.2.2.2.2.1 (ia p.2.2.2.2.1.2.2.1) Ob).2.2.1)),p.2.2.2.1,p.2.2.2.2.1,p.2.2.2.2.2.1,r2,p.2.2.2.2.2.2.2.2.2)).bind λe3=>
  ask (V.ua p.2.2.2.2.1.2.2.1 (fa p.2.2.2.2.2.2.2.2.2.2)) (ke (.inr ((Wb p.2.2.2.2.2.2.2.2.2.2 (ia p.2.2.2.2.1.2.2.1) e3))))))))
  (cond (decide (p.2.2.2.2.1.1=(15:Int)))
  ((oH (p.2.2.2.2.1,p.1,p.2.2.2.2.2.1,p.2.2.2.2.2.2.1,p.2.2.2.2.2.2.2.1,p.2.2.2.2.2.2.2.2.1.1,p.2.2.2.2.2.2.2.2.1.2,p.2.2.2.2.2.2.2.2.2.1,p.2.2.2.2.2.2.2.2.2.2)).bind λr4=>
  ke (.inl (r4.1.1,r4.1.2.1,r4.1.2.2)))
  (ke (.inr (p.2.2.2.2.2.2.2.2.2.2))))
 o:=λZ p e K=>Sum.elim (λe=>so K (.ret) ⟨[(8,.loc 0 0)],[Mb],[],0,0⟩ ((),((e.1,e.2.1,e.2.2,()),()),())) (λe=>so K (.normal) ⟨[(8,.loc 0 0),(11,.loc 1 0)],[(cL [.bool,.Xa,.Xa]),(cL [.bool,(.all 0),(.all 1)])],[.cells Ma,.cells Ma],0,0⟩ ((),((p.t3.1,(),(),()),(p.t5.1,(),(),()),()),p.t9.1,e,())) e
 ve:=⟨[3,4,8,9,10,11,87],[],[],[]⟩
 pe:=[(.ret,⟨[8],[],[(0,[.any,(.lit Ma),(.lit Ma)])],[]⟩),(.normal,⟨[8,11],[],[],[]⟩)]
def xE:PD (Int×Bool×(Ba×(Bool×(Lb×(Bool×(Ba×(Ga×((Y4)×(Y3))))))))) ((Y11) ⊕ (Y3))where
 sk:=⟨[(3,.i),(4,.loc 0 0),(8,.loc 1 0),(9,.p 0 0),(10,.loc 2 0),(11,.loc 3 0),(62,.v .bool)],[Va,(cL [.bool,.Xa,.Xa]),Sc,(cL [.bool,(.all 4),(.all 5)])],[.Ee vO,.Pe .i true Vd,.Pe .i true Ma,.Jg .i [((2:Int),(.fn 85 .nil)),((3:Int),(.fn 87 .nil)),((4:Int),(.fn 89 .nil)),((5:Int),(.fn 90 .nil)),((6:Int),(.fn 91 .nil)),((7:Int),(.fn 92 .nil)),((8:Int),(.fn 93 .nil)),((9:Int),(.fn 83 .nil)),((10:Int),(.fn 83 .nil))],.cells Ma,.cells Ma],0,0⟩
 p:=λu=>(u.1.1,u.1.2.2.1,(q8 u.2.1.1),(u.2.1.2.1.1,((q8 u.2.1.2.2.1),(u.2.1.t3.1.1,((q8 u.2.2.1),((q3 u.2.2.1.t8),((u.t3.1,u.t4.1),(u.t6.1,u.t7.1))))))))
 st:=λY p ke=>cond p.2.1
  ((sg.m (p.2.2.2.2.1.2.2.1,p.2.2.2.2.2.2.1,p.2.2.2.2.2.2.2.1,p.2.2.2.2.2.2.2.2.1.1,p.2.2.2.2.2.2.2.2.1.2)).bind λr1=>
  ask (V.ua p.2.2.2.2.1.2.1 (fa p.2.2.1.2.2.2.2.2.1)) ((OD (r1.1,(gx p.2.2.1.2.2.2.2.2.1 (ia p.2.2.2.2.1.2.1) ud).2.1)).bind λr2=>
  cond r2.1
  (ke (.inl (false,[],[])))
  (ask (V.ua p.2.2.2.2.1.2.1 (fa p.2.2.2.2.2.2.2.2.2.1)) (ke (.inr (((Wb p.2.2.2.2.2.2.2.2.2.1 (ia p.2.2.2.2.1.2.1) r2),p.2.2.2.2.2.2.2.2.2.2)))))))
  ((Bx.m (p.1,(decide (p.2.2.2.2.1.1=(14:Int))),p.2.2)).bind λe3=>
  Sum.elim (λe4=>ke (.inl (e4.1,e4.2.1,e4.2.2)))
  (λe5=>ke (.inr ((p.2.2.2.2.2.2.2.2.2.1,e5)))) e3)
 o:=λZ p e K=>Sum.elim (λe=>so K (.ret) ⟨[(8,.loc 0 0)],[Mb],[],0,0⟩ ((),((e.1,e.2.1,e.2.2,()),()),())) (λe=>so K (.normal) ⟨[(8,.loc 0 0),(11,.loc 1 0)],[(cL [.bool,.Xa,.Xa]),(cL [.bool,(.all 0),(.all 1)])],[.cells Ma,.cells Ma],0,0⟩ ((),((p.t3.1,(),(),()),(p.t5.1,(),(),()),()),e.1,e.2,())) e
 ve:=⟨[3,4,8,9,10,11,62],[],[],[]⟩
 pe:=[(.ret,⟨[8],[],[(0,[.any,(.lit Ma),(.lit Ma)])],[]⟩),(.normal,⟨[8,11],[],[],[]⟩)]
def yE:PD (Int×Bool×Ba×Bool×Lb×Bool×Ba×Ga×(Y4)×(Y3)) ((Y11) ⊕ (Y3))where
 sk:=⟨[(3,.i),(4,.loc 0 0),(8,.loc 1 0),(9,.p 0 0),(10,.loc 2 0),(11,.loc 3 0),(47,.v .bool)],[Va,(cL [.bool,.Xa,.Xa]),Sc,(cL [.bool,(.all 4),(.all 5)])],[.Ee vO,.Pe .i true Vd,.Pe .i true Ma,.Jg .i [((2:Int),(.fn 85 .nil)),((3:Int),(.fn 87 .nil)),((4:Int),(.fn 89 .nil)),((5:Int),(.fn 90 .nil)),((6:Int),(.fn 91 .nil)),((7:Int),(.fn 92 .nil)),((8:Int),(.fn 93 .nil)),((9:Int),(.fn 83 .nil)),((10:Int),(.fn 83 .nil))],.cells Ma,.cells Ma],0,0⟩
 p:=λu=>(u.1.1,u.1.2.2.1,(q8 u.2.1.1),u.2.1.2.1.1,(q8 u.2.1.2.2.1),u.2.1.t3.1.1,(q8 u.2.2.1),(q3 u.2.2.1.t8),(u.t3.1,u.t4.1),u.t6.1,u.t7.1)
 st:=λY p ke=>cond p.2.1
  ((sg.m (p.2.2.2.2.1.2.1,p.2.2.2.2.2.2.1,p.2.2.2.2.2.2.2.1,p.2.2.2.2.2.2.2.2.1.1,p.2.2.2.2.2.2.2.2.1.2)).bind λr1=>
  cond r1.1.1
  (ke (.inl (false,[],[])))
  (ke (.inr ((p.2.2.2.2.2.2.2.2.2.1,p.2.2.2.2.2.2.2.2.2.2)))))
  ((xE.m (p.1,(decide (p.2.2.2.2.1.1=(13:Int))),p.2.2)).bind λe2=>
  Sum.elim (λe3=>ke (.inl (e3.1,e3.2.1,e3.2.2)))
  (λe4=>ke (.inr ((e4.1,e4.2)))) e2)
 o:=λZ p e K=>Sum.elim (λe=>so K (.ret) ⟨[(8,.loc 0 0)],[Mb],[],0,0⟩ ((),((e.1,e.2.1,e.2.2,()),()),())) (λe=>so K (.normal) ⟨[(8,.loc 0 0),(11,.loc 1 0)],[(cL [.bool,.Xa,.Xa]),(cL [.bool,(.all 0),(.all 1)])],[.cells Ma,.cells Ma],0,0⟩ ((),((p.t3.1,(),(),()),(p.t5.1,(),(),()),()),e.1,e.2,())) e
 ve:=⟨[3,4,8,9,10,11,47],[],[],[]⟩
 pe:=[(.ret,⟨[8],[],[(0,[.any,(.lit Ma),(.lit Ma)])],[]⟩),(.normal,⟨[8,11],[],[],[]⟩)]
def LM{X:Type}(a:Y10)(K:Ga->Option X):Option X:=
 (Dz.m (a.2.2,a.1,a.2.1,false)).bind λe1=>
 cond e1
 (K (false,([],[])))
 ((SD (a.1,a.2.1)).bind λr2=>
 ask (V.ua a.2.2.1 (fa a.1.1)) ((tq a.2.1).bind λr3=>
 (Cz.m (a.2.2.2,a.1,false,(gx a.1.1 (ia a.2.2.1) Pb),a.2.1.1,a.1,a.2.1,r2,a.2.1.2)).bind λe4=>
 (yE.m (a.2.2.2,e4,a.1,false,(gx a.1.1 (ia a.2.2.1) Pb),a.2.1.1,a.1,a.2.1,r2,a.2.1.2)).bind λe5=>
 Sum.elim (λe6=>K e6)
 (λe7=>K (a.2.1.1,e7)) e5))
def vl:=λa=>LM a some
def C5:Spec:=xae.sp vl
noncomputable def wE:Env:=eE [1000005,1000008,1000013,1000017,2000001,2000004] (Ra [(46,Q3),(49,M3),(47,nv),(50,Xah),(51,MD),(52,Uah)]) (qL 2000001 Dz.q (qL 2000004 Cz.q (qL 1000017 Ax.q (qL 1000013 Bx.q (qL 1000008 xE.q (qL 1000005 yE.q qN))))))
theorem tX:LP C wE [4,5,8,10,11,12,13,1000059,1000069,1000094] Tryz.f16 9:=λhc=>
 pN (n':=λp=>((p.1.1,p.1.2,()),((r7 p.2.1 (p.2.1.t7,())),(p.2.2.1.1,p.2.2.1.2.1,p.2.2.1.2.2,()),(p.t3,(),(),()),()),())) 2000001 hc Dz (by intros;simp only[Dz,PD.m,nn])
theorem sX:LP C wE [4,5,8,10,11,12,13,1000059,1000069,1000094] Tryz.f16 71:=λhc=>
 pN (n':=λp=>((p.1,(),()),((r7 p.2.1 (p.2.1.t7,())),(p.2.2.1,(),(),()),(r7 p.t3.1 (p.t3.1.t7,())),(p.t4.1,(),(),()),()),(r7 p.t5.1 (p.t5.1.t7,p.t6.1.1,p.t6.1.2.1,p.t6.1.2.2,(),(),(),())),p.t7.1.1,p.t7.1.2,((),(),(),(),(),(),(),(),(),()),p.t8.1,p.t9,())) 2000004 hc Cz (by intros;simp only[Cz,PD.m,nn])
theorem HP:LP C wE [4,5,8,10,11,12,13,1000059,1000069,1000094] Tryz.f16 56295:=λhc=>
 pN (n':=λp=>((p.1,()),((p.2.1,(),(),()),(r7 p.2.2.1 (p.2.2.1.t7,())),(p.t3.1,(),(),()),(p.t4.1.1,p.t4.1.2.1,p.t4.1.2.2,()),()),p.t5.1,p.t6,())) 1000017 hc Ax (by intros;simp only[Ax,PD.m,nn])
theorem IP:LP C wE [4,5,8,10,11,12,13,1000059,1000069,1000094] Tryz.f16 2023:=λhc=>
 pN (n':=λp=>((p.1,(),p.2.1,()),((r7 p.2.2.1 (p.2.2.1.t7,())),(p.t3.1,(),(),()),(r7 p.t4.1 (p.t4.1.t7,())),(p.t5.1,(),(),()),()),(r7 p.t6.1 (p.t6.1.t7,p.t7.1.1,p.t7.1.2.1,p.t7.1.2.2,(),(),(),())),p.t8.1.1,p.t8.1.2,((),(),(),(),(),(),(),(),(),()),p.t9.1,p.t10,())) 1000013 hc Bx (by intros;simp only[Bx,PD.m,nn]) (hl:=(Vi (Ta (HP hc) fc)))
theorem uX:LP C wE [4,5,8,10,11,12,13,1000059,1000069,1000094] Tryz.f16 487:=λhc=>
 pN (n':=λp=>((p.1,(),p.2.1,()),((r7 p.2.2.1 (p.2.2.1.t7,())),(p.t3.1,(),(),()),(r7 p.t4.1 (p.t4.1.t7,())),(p.t5.1,(),(),()),()),(r7 p.t6.1 (p.t6.1.t7,p.t7.1.1,p.t7.1.2.1,p.t7.1.2.2,(),(),(),())),p.t8.1.1,p.t8.1.2,((),(),(),(),(),(),(),(),(),()),p.t9.1,p.t10,())) 1000008 hc xE (by intros;simp only[xE,PD.m,nn]) (hl:=(Vi (Ta (IP hc) fc)))
theorem vX:LP C wE [4,5,8,10,11,12,13,1000059,1000069,1000094] Tryz.f16 103:=λhc=>
 pN (n':=λp=>((p.1,(),p.2.1,()),((r7 p.2.2.1 (p.2.2.1.t7,())),(p.t3.1,(),(),()),(r7 p.t4.1 (p.t4.1.t7,())),(p.t5.1,(),(),()),()),(r7 p.t6.1 (p.t6.1.t7,p.t7.1.1,p.t7.1.2.1,p.t7.1.2.2,(),(),(),())),p.t8.1.1,p.t8.1.2,((),(),(),(),(),(),(),(),(),()),p.t9.1,p.t10,())) 1000005 hc yE (by intros;simp only[yE,PD.m,nn]) (hl:=(Vi (Ta (uX hc) fc)))
theorem D5:OK (166020696663385964546) 16 (xae.sp vl):=
 fO (env:=wE) (za (cc R3 (cc N3 (cc pP (cc Yah (cc ND (cc Vah cn))))))) (fn:=Tryz.f16) (mc:=@LM) (by intros;simp only[vl,LM,nn]) (Ca:=[4,5,8,10,11,12,13,1000059,1000069,1000094]) (sh:=(.agg [.any,(.lit Ma),(.lit Ma)])) (fz:=true) (hl:=λhc=>(Vi (Ta (tX hc) (Ta (sX hc) (Ta (vX hc) fc)))))
def Cad:FS (Ga×Ga) (Unit)where
 sk:=⟨(cL [(.ptr 0 0),(.agg Mb)]),[.Ee Mb],0⟩
 a:=λu=>((q3 u.1.2.1),u.2.1.1,(u.2.1.2.1,u.2.1.2.2.1))
 o:=λZ a r K=>kv K (.fn 116 (cL [(.ptr 1 0),(.ptr 2 0)])) [.Ee Mb,.Ee (.cons (.ptr 0 0) .nil),.Ee Mb] 0 ((),(),()) ((a.2.1,a.2.2.1,a.t3,()),((),()),(a.1.1,a.1.2.1,a.1.2.2,()),())
def Q2{X:Type}(a:Ga×Ga)(K:Unit->Option X):Option X:=
 K ()
def P2:=λa=>Q2 a some
def Eah:Spec:=Cad.sp P2
noncomputable def yao:Env:=eE [] (Ra []) qN
theorem Fah:OK (1) 63 (Cad.sp P2):=
 fO (env:=yao) (za cn) (fn:=Tryz.f63) (mc:=@Q2) (by intros;simp only[P2,Q2,nn])
def lae:FS (ga×ga) (Bool)where
 sk:=⟨(cL [(.agg La),(.agg La)]),[],0⟩
 a:=λu=>((q3 u.1.1),u.1.2.1.1,(u.1.2.1.2.1,u.1.2.1.2.2.1))
 o:=λZ a r K=>kv K (.bool) [] 0 r ()
def UT{X:Type}(a:ga×ga)(K:Bool->Option X):Option X:=
 cond a.1.1
 (K true)
 (cond (!a.2.1)
 ((yu (a.1,a.2)).bind λr1=>
 K ((r1.1==a.2.1)&&((decide (r1.2.1=a.2.2.1))&&((decide (r1.2.2=a.2.2.2))&&true))))
 (K false))
def vH:=λa=>UT a some
def Cai:Spec:=lae.sp vH
noncomputable def Pao:Env:=eE [] (Ra [(51,MD)]) qN
theorem Dai:OK (6) 27 (lae.sp vH):=
 fO (env:=Pao) (za (cc ND cn)) (fn:=Tryz.f27) (mc:=@UT) (by intros;simp only[vH,UT,nn]) (Ca:=[2,3])
def SU:FS (ga×ga×Bool) ((Unit) ⊕ (Unit))where
 sk:=⟨(cL [(.yl 0),(.ee La),(.agg La)]),[.loop 250004 [(4,(.ptr 1 0))] .ready .normal,.Ee (.cons .bool .nil)],0⟩
 a:=λu=>((q3 u.1.2.1),(q3 u.1.2.2.1),u.2.2.1.1)
 o:=λZ a r K=>Sum.elim (λe=>kv K (.bool) [.loop 250004 [(4,(.ptr 1 0))] .done .ret,.Ee (.cons .bool .nil)] 0 false (((),()),(false,()),())) (λe=>kv K (.bool) [.loop 250004 [(4,(.ptr 1 0))] .ready .normal,.Ee (.cons .bool .nil)] 0 true (((),()),(a.2.2,()),())) r
def Es{X:Type}(a:ga×ga×Bool)(K:(Unit) ⊕ (Unit)->Option X):Option X:=
 (vH (a.1,a.2.1)).bind λr1=>
 cond (!r1)
 (K (.inl ()))
 (K (.inr (())))
def Yl:=λa=>Es a some
def pC:Spec:=SU.sp Yl
noncomputable def TU:Env:=eE [] (Ra [(27,Cai)]) qN
theorem JN:OKY (7) pC:=
 ial (d:=6) (env:=TU) (za (cc Dai cn)) (id:=250004) (r:=rfT 250004) rfl (λhc=>(Vi fc)) (λhc=>(Vi fc)) (mc:=λX a K=>Es a K) (λ_ _ _=>by kernel_rfl) (by intros;simp only[Yl,Es,nn])
def l7:FS (Ga×Ga×Bool) ((Unit) ⊕ (Unit))where
 sk:=⟨(cL [(.yl 3),(.ptr 0 0),(.ptr 2 0)]),[.Ee (.cons (.ptr 1 0) .nil),.Ee Mb,.Ee Mb,.loop 250004 [(4,(.ptr 4 0))] .ready .normal,.Ee (.cons .bool .nil)],0⟩
 a:=λu=>((q3 u.2.2.1),(q3 u.t3.1),u.t5.1.1)
 o:=λZ a r K=>Sum.elim (λe=>kv K (.Re .nil) [.Ee (.cons (.ptr 1 0) .nil),.Ee Mb,.Ee Mb,.loop 250004 [(4,(.ptr 4 0))] .done .ret,.Ee (.cons .bool .nil)] 0 () (((),()),(a.1.1,a.1.2.1,a.1.2.2,()),(a.2.1.1,a.2.1.2.1,a.2.1.2.2,()),((),()),(false,()),())) (λe=>kv K (.Re .nil) [.Ee (.cons (.ptr 1 0) .nil),.Ee Mb,.Ee Mb,.loop 250004 [(4,(.ptr 4 0))] .ready .normal,.Ee (.cons .bool .nil)] 0 () (((),()),(a.1.1,a.1.2.1,a.1.2.2,()),(a.2.1.1,a.2.1.2.1,a.2.1.2.2,()),((),()),(a.2.2,()),())) r
abbrev Rx:LD (Int×(Ga×(Ga×Bool))) (Int) ((Unit) ⊕ (Unit))where
 sk:=⟨[(0,.v (.yl 3)),(1,.p 0 0),(2,.p 2 0),(10,.i),(11,.i)],[],[.Ee (.cons (.ptr 1 0) .nil),.Ee Mb,.Ee Mb,.loop 250004 [(4,(.ptr 4 0))] .ready .normal,.Ee (.cons .bool .nil)],0,5⟩
 p:=λu=>(u.1.t3.1,(q3 u.t3.1),((q3 u.t4.1),u.t6.1.1))
 t:=λu=>u.1.t4.1
 n:=λp t=>(((),(),(),p.1,t,()),(),((),()),(p.2.1.1,p.2.1.2.1,p.2.1.2.2,()),(p.2.2.1.1,p.2.2.1.2.1,p.2.2.1.2.2,()),((),()),(p.t3,()),())
 st:=λY p t ki ke=>cond (decide (t<p.1))
  (ask (V.ua t (fa p.2.1.2.1)) (ask (V.ua t (fa p.2.2.1.2.1)) ((Yl ((gx p.2.1.2.1 (ia t) Aa),(gx p.2.2.1.2.1 (ia t) Aa),p.2.2.2)).bind λr1=>
  Sum.elim (λr2=>ke (.inl ()))
  (λr3=>ki ((Ka (t+(1:Int))))) r1)))
  (ke (.inr (())))
 o:=λZ p e K=>Sum.elim (λe=>so K (.ret) ⟨[],[],[.Ee (.cons (.ptr 1 0) .nil),.Ee Mb,.Ee Mb,.loop 250004 [(4,(.ptr 4 0))] .done .ret,.Ee (.cons .bool .nil)],0,5⟩ ((),(),((),()),(p.2.1.1,p.2.1.2.1,p.2.1.2.2,()),(p.2.2.1.1,p.2.2.1.2.1,p.2.2.1.2.2,()),((),()),(false,()),())) (λe=>so K (.exit 0) ⟨[(0,.v (.yl 3)),(1,.p 0 0),(2,.p 2 0)],[],[.Ee (.cons (.ptr 1 0) .nil),.Ee Mb,.Ee Mb,.loop 250004 [(4,(.ptr 4 0))] .ready .normal,.Ee (.cons .bool .nil)],0,5⟩ (((),(),(),()),(),((),()),(p.2.1.1,p.2.1.2.1,p.2.1.2.2,()),(p.2.2.1.1,p.2.2.1.2.1,p.2.2.1.2.2,()),((),()),(p.t3,()),())) e
 ve:=⟨[0,1,2,10,11],[],[],[]⟩
 pe:=[(.ret,⟨[],[],[],[]⟩),(.exit 0,⟨[0,1,2],[],[],[]⟩)]
abbrev Qx:LD (Int×(Ga×(Ga×Bool))) (Int) ((Unit) ⊕ (Unit))where
 sk:=⟨[(0,.v (.yl 3)),(1,.p 0 0),(2,.p 2 0),(33,.i),(34,.i)],[],[.Ee (.cons (.ptr 1 0) .nil),.Ee Mb,.Ee Mb,.loop 250004 [(4,(.ptr 4 0))] .ready .normal,.Ee (.cons .bool .nil)],0,5⟩
 p:=λu=>(u.1.t3.1,(q3 u.t3.1),((q3 u.t4.1),u.t6.1.1))
 t:=λu=>u.1.t4.1
 n:=λp t=>(((),(),(),p.1,t,()),(),((),()),(p.2.1.1,p.2.1.2.1,p.2.1.2.2,()),(p.2.2.1.1,p.2.2.1.2.1,p.2.2.1.2.2,()),((),()),(p.t3,()),())
 st:=λY p t ki ke=>cond (decide (t<p.1))
  (ask (V.ua t (fa p.2.1.2.2)) (ask (V.ua t (fa p.2.2.1.2.2)) ((Yl ((gx p.2.1.2.2 (ia t) Aa),(gx p.2.2.1.2.2 (ia t) Aa),p.2.2.2)).bind λr1=>
  Sum.elim (λr2=>ke (.inl ()))
  (λr3=>ki ((Ka (t+(1:Int))))) r1)))
  (ke (.inr (())))
 o:=λZ p e K=>Sum.elim (λe=>so K (.ret) ⟨[],[],[.Ee (.cons (.ptr 1 0) .nil),.Ee Mb,.Ee Mb,.loop 250004 [(4,(.ptr 4 0))] .done .ret,.Ee (.cons .bool .nil)],0,5⟩ ((),(),((),()),(p.2.1.1,p.2.1.2.1,p.2.1.2.2,()),(p.2.2.1.1,p.2.2.1.2.1,p.2.2.1.2.2,()),((),()),(false,()),())) (λe=>so K (.exit 2) ⟨[],[],[.Ee (.cons (.ptr 1 0) .nil),.Ee Mb,.Ee Mb,.loop 250004 [(4,(.ptr 4 0))] .ready .normal,.Ee (.cons .bool .nil)],0,5⟩ ((),(),((),()),(p.2.1.1,p.2.1.2.1,p.2.1.2.2,()),(p.2.2.1.1,p.2.2.1.2.1,p.2.2.1.2.2,()),((),()),(p.t3,()),())) e
 ve:=⟨[0,1,2,33,34],[],[],[]⟩
 pe:=[(.ret,⟨[],[],[],[]⟩),(.exit 2,⟨[],[],[],[]⟩)]
def aK{X:Type}(a:Ga×Ga×Bool)(K:(Unit) ⊕ (Unit)->Option X):Option X:=
 (Ua (Rx.m ((nt (fa a.1.2.1)),a)) 0).bind λe1=>
 Sum.elim (λe2=>K (.inl ()))
 (λe3=>(Ua (Qx.m ((nt (fa a.1.2.2)),a)) 0).bind λe4=>
 Sum.elim (λe5=>K (.inl ()))
 (λe6=>K (.inr (()))) e4) e1
def Uz:=λa=>aK a some
def fab:Spec:=l7.sp Uz
noncomputable def tQ:Env:=eE [] (yK [] [(250004,pC)]) (qL 1 Rx.q (qL 6 Qx.q qN))
theorem sQ:LL C tQ [] Tryz.f116 18:=λhc=>
 lO hc Rx
theorem rQ:LL C tQ [] Tryz.f116 19:=λhc=>
 lO hc Qx
theorem gab:OK (8) 116 (l7.sp Uz):=
 fO (env:=tQ) (kB cn (ccy JN cyn)) (fn:=Tryz.f116) (mc:=@aK) (by intros;simp only[Uz,aK,nn]) (hl:=λhc=>(Vi (Ta (sQ hc) (Ta (rQ hc) fc))))
def nae:FS (Ga×Ga) (Bool)where
 sk:=⟨(cL [(.agg Mb),(.agg Mb)]),[],0⟩
 a:=λu=>((q3 u.1.1),u.1.2.1.1,(u.1.2.1.2.1,u.1.2.1.2.2.1))
 o:=λZ a r K=>kv K (.bool) [] 0 r ()
abbrev nE:PD (Bool×(Ga×Ga)) ((Unit) ⊕ (Unit))where
 sk:=⟨[(4,.p 0 0),(19,.v (.fn 116 (cL [(.ptr 1 0),(.ptr 3 0)])))],[],[.Ee (.cons .bool .nil),.Ee (.cons (.ptr 2 0) .nil),.Ee Mb,.Ee Mb],0,0⟩
 p:=λu=>(u.2.2.1.1,(q3 u.t4.1),(q3 u.t5.1))
 st:=λY p ke=>(Uz (p.2.1,p.2.2,p.1)).bind λr1=>
  Sum.elim (λr2=>ke (.inl ()))
  (λr3=>ke (.inr (()))) r1
 o:=λZ p e K=>Sum.elim (λe=>so K (.ret) ⟨[(4,.p 0 0)],[],[.Ee (.cons .bool .nil)],0,0⟩ (((),()),(),(false,()),())) (λe=>so K (.normal) ⟨[(4,.p 0 0)],[],[.Ee (.cons .bool .nil)],0,0⟩ (((),()),(),(p.1,()),())) e
 ve:=⟨[4,19],[],[],[]⟩
 pe:=[(.ret,⟨[4],[],[],[]⟩),(.normal,⟨[4],[],[],[]⟩)]
def WT{X:Type}(a:Ga×Ga)(K:Bool->Option X):Option X:=
 cond (!a.1.1)
 (K (!a.1.1))
 (cond (!a.2.1)
 (K (!a.1.1))
 ((nE.m (false,a)).bind λe1=>
 Sum.elim (λe2=>K false)
 (λe3=>K true) e1))
def uq:=λa=>WT a some
def O4:Spec:=nae.sp uq
noncomputable def Q4:Env:=eE [] (Ra [(63,Eah),(116,fab)]) (qL 4 nE.q qN)
theorem bX:LS C Q4 true [] 28 (rfC (pc 43 Tryz.f25)):=λhc=>
 rO (env:=Q4) hc (id:=250004) (ks:=[4]) nE (by intros;simp only[nE,PD.m,nn])
theorem P4:OK (9) 25 (nae.sp uq):=
 fO (env:=Q4) (za (cc Fah (cc gab cn))) (fn:=Tryz.f25) (mc:=@WT) (by intros;simp only[uq,WT,nn]) (hl:=λhc=>(Vi (Ta (bX hc) fc)))
def eT:FS (Y12) (Unit)where
 sk:=⟨(cL [(.ptr 0 0),(.agg Mb)]),[.Ee (cL [.bool,(.all 1),(.all 2)]),.cells Ma,.cells Ma],0⟩
 a:=λu=>((q3 u.1.2.1),u.2.1.1,u.2.2.1,u.t3.1)
 o:=λZ a r K=>kv K (.fn 116 (cL [(.ptr 3 0),(.ptr 4 0)])) [.Ee (cL [.bool,(.all 1),(.all 2)]),.cells Ma,.cells Ma,.Ee (.cons (.ptr 0 0) .nil),.Ee Mb] 0 ((),(),()) ((a.2.1,(),(),()),a.2.2.1,a.t3,((),()),(a.1.1,a.1.2.1,a.1.2.2,()),())
def WI{X:Type}(a:Y12)(K:Unit->Option X):Option X:=
 K ()
def VI:=λa=>WI a some
def N2:Spec:=eT.sp VI
noncomputable def N_:Env:=eE [] (Ra []) qN
theorem O2:OK (1) 63 (eT.sp VI):=
 fO (env:=N_) (za cn) (fn:=Tryz.f63) (mc:=@WI) (by intros;simp only[VI,WI,nn])
def QU:FS (Nat×ga×(List ga)) ((List ga))where
 sk:=⟨(cL [(.yl 0),(.Lm 1 0),(.agg La)]),[.loop 260009 [] .ready .normal,.cells Ma],0⟩
 a:=λu=>(u.1.2.1,(q3 u.1.2.2.1),u.2.2.1)
 o:=λZ a r K=>kv K (.bool) [.loop 260009 [] .ready .normal,.cells Ma] 0 true ((),r,())
def Ds{X:Type}(a:Nat×ga×(List ga))(K:(List ga)->Option X):Option X:=
 (yu ((gx a.2.2 a.1 Aa),a.2.1)).bind λr1=>
 K (Wb a.2.2 a.1 r1)
def Xl:=λa=>Ds a some
def nC:Spec:=QU.sp Xl
noncomputable def RU:Env:=eE [] (Ra [(51,MD)]) qN
theorem IN:OKY (6) nC:=
 ial (d:=5) (env:=RU) (za (cc ND cn)) (id:=260009) (r:=rfT 260009) rfl (λhc=>(Vi fc)) (λhc=>(Vi fc)) (mc:=λX a K=>Ds a K) (λ_ _ _=>by kernel_rfl) (by intros;simp only[Xl,Ds,nn])
def VM:FS (Y13) (Y3)where
 sk:=⟨(cL [(.yl 5),(.ptr 0 0),(.ptr 4 0)]),[.Ee (.cons (.ptr 1 0) .nil),.Ee kr3,.cells Ma,.cells Ma,.Ee Mb,.loop 260009 [] .ready .normal],0⟩
 a:=λu=>(u.2.2.1.1,u.t3.1,u.t4.1,u.t5.1.1,(u.t5.1.2.1,u.t5.1.2.2.1))
 o:=λZ a r K=>kv K (.Re .nil) [.Ee (.cons (.ptr 1 0) .nil),.Ee kr3,.cells Ma,.cells Ma,.Ee Mb,.loop 260009 [] .ready .normal] 0 () (((),()),(a.1,(),(),()),r.1,r.2,(a.t3.1,a.t4.1,a.t5,()),(),())
abbrev Jo:LD (Int×Bool×((List ga)×Ga)) (Int×(List ga)) ((List ga))where
 sk:=⟨[(0,.v (.yl 5)),(1,.p 0 0),(2,.p 4 0),(10,.i),(11,.i)],[],[.Ee (.cons (.ptr 1 0) .nil),.Ee kr3,.cells Ma,.cells Ma,.Ee Mb,.loop 260009 [] .ready .normal],0,6⟩
 p:=λu=>(u.1.t3.1,u.t3.1.1,u.t5.1,(q3 u.t6.1))
 t:=λu=>(u.1.t4.1,u.t4.1)
 n:=λp t=>(((),(),(),p.1,t.1,()),(),((),()),(p.2.1,(),(),()),t.2,p.2.2.1,(p.t3.1,p.t4.1,p.t5,()),(),())
 st:=λY p t ki ke=>cond (decide (t.1<p.1))
  (ask (V.ua t.1 (fa t.2)) (ask (V.ua t.1 (fa p.2.2.2.2.1)) ((Xl ((ia t.1),(gx p.2.2.2.2.1 (ia t.1) Aa),t.2)).bind λr1=>
  ki ((Ka (t.1+(1:Int))),r1))))
  (ke (t.2))
 o:=λZ p e K=>so K (.exit 0) ⟨[(0,.v (.yl 5)),(1,.p 0 0),(2,.p 4 0)],[],[.Ee (.cons (.ptr 1 0) .nil),.Ee kr3,.cells Ma,.cells Ma,.Ee Mb,.loop 260009 [] .ready .normal],0,6⟩ (((),(),(),()),(),((),()),(p.2.1,(),(),()),e,p.2.2.1,(p.t3.1,p.t4.1,p.t5,()),(),())
 ve:=⟨[0,1,2,10,11],[],[],[]⟩
 pe:=[(.exit 0,⟨[0,1,2],[],[],[]⟩)]
abbrev Io:LD (Int×Bool×(List ga)×Ga) (Int×(List ga)) ((List ga))where
 sk:=⟨[(0,.v (.yl 5)),(1,.p 0 0),(2,.p 4 0),(33,.i),(34,.i)],[],[.Ee (.cons (.ptr 1 0) .nil),.Ee kr3,.cells Ma,.cells Ma,.Ee Mb,.loop 260009 [] .ready .normal],0,6⟩
 p:=λu=>(u.1.t3.1,u.t3.1.1,u.t4.1,u.t6.1.1,(u.t6.1.2.1,u.t6.1.2.2.1))
 t:=λu=>(u.1.t4.1,u.t5.1)
 n:=λp t=>(((),(),(),p.1,t.1,()),(),((),()),(p.2.1,(),(),()),p.2.2.1,t.2,(p.t3.1,p.t4.1,p.t5,()),(),())
 st:=λY p t ki ke=>cond (decide (t.1<p.1))
  (ask (V.ua t.1 (fa t.2)) (ask (V.ua t.1 (fa p.2.2.2.2.2)) ((Xl ((ia t.1),(gx p.2.2.2.2.2 (ia t.1) Aa),t.2)).bind λr1=>
  ki ((Ka (t.1+(1:Int))),r1))))
  (ke (t.2))
 o:=λZ p e K=>so K (.exit 2) ⟨[],[],[.Ee (.cons (.ptr 1 0) .nil),.Ee kr3,.cells Ma,.cells Ma,.Ee Mb,.loop 260009 [] .ready .normal],0,6⟩ ((),(),((),()),(p.2.1,(),(),()),p.2.2.1,e,(p.t3.1,p.t4.1,p.t5,()),(),())
 ve:=⟨[0,1,2,33,34],[],[],[]⟩
 pe:=[(.exit 2,⟨[],[],[],[]⟩)]
def Px{X:Type}(a:Y13)(K:Y3->Option X):Option X:=
 (Ua (Jo.m ((nt (fa a.2.1)),a.1,a.2.2)) (0,a.2.1)).bind λe1=>
 (Ua (Io.m ((nt (fa a.2.2.1)),a.1,e1,a.2.2.2)) (0,a.2.2.1)).bind λe2=>
 K (e1,e2)
def Ho:=λa=>Px a some
def wX:Spec:=VM.sp Ho
noncomputable def JE:Env:=eE [] (yK [] [(260009,nC)]) (qL 1 Jo.q (qL 6 Io.q qN))
theorem ZJ:LL C JE [] Tryz.f116 18:=λhc=>
 lO hc Jo
theorem YJ:LL C JE [] Tryz.f116 19:=λhc=>
 lO hc Io
theorem xX:OK (7) 116 (VM.sp Ho):=
 fO (env:=JE) (kB cn (ccy IN cyn)) (fn:=Tryz.f116) (mc:=@Px) (by intros;simp only[Ho,Px,nn]) (hl:=λhc=>(Vi (Ta (ZJ hc) (Ta (YJ hc) fc))))
def mae:FS (Ga×Ga) (Ga)where
 sk:=⟨(cL [(.agg Mb),(.agg Mb)]),[],0⟩
 a:=λu=>((q3 u.1.1),u.1.2.1.1,(u.1.2.1.2.1,u.1.2.1.2.2.1))
 o:=λZ a r K=>kv K (.agg Mb) [] 0 (r.1,r.2.1,r.2.2,()) ()
abbrev vz:PD (Bool×(Ga×Ga)) ((List ga)×(List ga))where
 sk:=⟨[(4,.p 0 0),(5,.p 1 0),(33,.v (.fn 116 (cL [(.ptr 4 0),(.ptr 5 0)])))],[],[.Ee (cL [.bool,.Xa,.Xa]),.Ee kr3,.cells Ma,.cells Ma,.Ee (.cons (.ptr 1 0) .nil),.Ee Mb],0,0⟩
 p:=λu=>(u.2.2.1.1,(u.t3.1.1,(u.t4.1,u.t5.1)),(q3 u.t7.1))
 st:=λY p ke=>(Ho (p.2.1.1,p.2.1.2.1,p.2.1.2.2,p.2.2)).bind λr1=>
  ke ((r1.1,r1.2))
 o:=λZ p e K=>so K (.normal) ⟨[(4,.p 0 0),(5,.p 1 0)],[],[.Ee (cL [.bool,.Xa,.Xa]),.Ee kr3,.cells Ma,.cells Ma],0,0⟩ (((),(),()),(),(p.1,(),(),()),(p.2.1.1,(),(),()),e.1,e.2,())
 ve:=⟨[4,5,33],[],[],[]⟩
 pe:=[(.normal,⟨[4,5],[],[],[]⟩)]
def VT{X:Type}(a:Ga×Ga)(K:Ga->Option X):Option X:=
 cond (!a.1.1)
 (cond (!a.2.1)
 (K (false,([],[])))
 (cond (!a.1.1)
 ((tq a.2).bind λr1=>
 K a.2)
 (cond (!a.2.1)
 ((tq a.1).bind λr2=>
 K a.1)
 ((tq a.1).bind λr3=>
 (vz.m (false,a)).bind λe4=>
 K (a.1.1,e4)))))
 (cond (!a.1.1)
 ((tq a.2).bind λr5=>
 K a.2)
 (cond (!a.2.1)
 ((tq a.1).bind λr6=>
 K a.1)
 ((tq a.1).bind λr7=>
 (vz.m (false,a)).bind λe8=>
 K (a.1.1,e8))))
def aB:=λa=>VT a some
def Fai:Spec:=mae.sp aB
noncomputable def N4:Env:=eE [] (Ra [(49,M3),(63,N2),(116,wX)]) (qL 9 vz.q qN)
theorem aX:LS C N4 true [] 44 (rfC (pc 87 Tryz.f26)):=λhc=>
 rO (env:=N4) hc (id:=260009) (ks:=[]) vz (by intros;simp only[vz,PD.m,nn])
theorem Gai:OK (8) 26 (mae.sp aB):=
 fO (env:=N4) (za (cc N3 (cc O2 (cc xX cn)))) (fn:=Tryz.f26) (mc:=@VT) (by intros;simp only[aB,VT,nn]) (sh:=(.agg [.any,(.lit Ma),(.lit Ma)])) (fz:=true) (hl:=λhc=>(Vi (Ta (aX hc) fc)))
def sae:FS (Ba) ((List Ga))where
 sk:=⟨(.cons (.agg Va) .nil),[],0⟩
 a:=λu=>(q8 u.1.1)
 o:=λZ a r K=>kv K (.lit Rc) [] 0 r ()
abbrev Kl:LD ((List Int)×Int×(List Int)×Int×Int×Kd×Ba) (Int×(List Ga)×(List (Int×Bool))) ((List Ga)×(List (Int×Bool)))where
 sk:=⟨[(1,.loc 0 0),(3,.v (.all 0)),(4,.v (.mp 1)),(5,.v (.lit .i)),(7,.i),(26,.v (.lit .i)),(27,.i),(28,.i),(43,.v (.agg Ag)),(44,.i)],[Va],[.cells Rc,.Pe .i false .bool],0,0⟩
 p:=λu=>(r5 u.1.2.2 ((u.1.t7.1.1,u.1.t7.1.2.1),u.2.1.1.1,(q7 u.2.1.1.2)))
 t:=λu=>(u.1.t8.1,u.2.2.1,u.t3.1)
 n:=λp t=>(((),(),(r5 p ((p.t5.1.1,p.t5.1.2,()),t.1,()))),((r7 p.t6 (p.t13,())),()),t.2.1,t.2.2,())
 st:=λY p t ki ke=>let zA:=fa t.2.1
  let zC:=vl (p.2.2.2.2.2.2,(gx t.2.1 (ia p.2.1) Kb),p.2.1,t.1)
  let zD:=V.ua p.2.2.2.2.2.1.1 zA
  let zE:=V.ua p.2.2.2.2.2.1.2 zA
  let zF:=ia p.2.2.2.2.2.1.1
  let zG:=ia p.2.2.2.2.2.1.2
  let zH:=Ka (t.1+(1:Int))
  let zB:=(zH,t.2.1,t.2.2)
  cond (decide (t.1<(2:Int)))
  (cond (decide (t.1=(0:Int)))
  (cond (decide (p.2.2.2.2.2.1.1<(0:Int)))
  (ki zB)
  (ask (V.ua p.2.1 zA) (zC.bind λr1=>
  ask zD ((uq (r1,(gx t.2.1 zF Kb))).bind λr2=>
  cond (!r2)
  (ask zD ((aB ((gx t.2.1 zF Kb),r1)).bind λr3=>
  ask zD (ki (zH,(Wb t.2.1 zF r3),(Mu (k:=(.int .i64)) p.2.2.2.2.2.1.1 true t.2.2)))))
  (ki zB)))))
  (cond (decide (t.1=(1:Int)))
  (cond (decide (p.2.2.2.2.2.1.2<(0:Int)))
  (ki zB)
  (ask (V.ua p.2.1 zA) (zC.bind λr4=>
  ask zE ((uq (r4,(gx t.2.1 zG Kb))).bind λr5=>
  cond (!r5)
  (ask zE ((aB ((gx t.2.1 zG Kb),r4)).bind λr6=>
  ask zE (ki (zH,(Wb t.2.1 zG r6),(Mu (k:=(.int .i64)) p.2.2.2.2.2.1.2 true t.2.2)))))
  (ki zB)))))
  (none)))
  (ke ((t.2.1,t.2.2)))
 o:=λZ p e K=>so K (.exit 4) ⟨[(1,.loc 0 0),(3,.v (.all 0)),(4,.v (.mp 1)),(5,.v (.lit .i)),(26,.v (.lit .i)),(27,.i),(28,.i)],[Va],[.cells Rc,.Pe .i false .bool],0,0⟩ (((),(),p.1,(r3 p.2.2 ())),((r7 p.t6 (p.t13,())),()),e.1,e.2,())
 ve:=⟨[1,3,4,5,7,26,27,28,43,44],[],[],[]⟩
 pe:=[(.exit 4,⟨[1,3,4,5,26,27,28],[],[],[]⟩)]
abbrev Az:LD ((List Int)×(List Int)×Int×Ba) (Int×(List Ga)×(List (Int×Bool))) ((List Ga)×(List (Int×Bool)))where
 sk:=⟨[(1,.loc 0 0),(3,.v (.all 0)),(4,.v (.mp 1)),(5,.v (.lit .i)),(26,.v (.lit .i)),(27,.i),(28,.i)],[Va],[.cells Rc,.Pe .i false .bool],0,0⟩
 p:=λu=>(r3 u.1.2.2 (q8 u.2.1.1))
 t:=λu=>(u.1.t5.1,u.2.2.1,u.t3.1)
 n:=λp t=>(((),(),(r3 p (t.1,()))),((r7 p.t3 (p.t10,())),()),t.2.1,t.2.2,())
 st:=λY p t ki ke=>cond (decide (t.1<p.2.2.1))
  (ask (V.ua t.1 (fa p.2.1)) (cond (jD (k:=(.int .i64)) (gx p.2.1 (ia t.1) (0:Int)) t.2.2)
  (cond (!(GB (k:=(.int .i64)) (gx p.2.1 (ia t.1) (0:Int)) false t.2.2))
  (ki ((Ka (t.1+(1:Int))),t.2.1,t.2.2))
  (ask (V.ua (gx p.2.1 (ia t.1) (0:Int)) (fa p.2.2.2.1)) ((Ua (Kl.m (p.1,(gx p.2.1 (ia t.1) (0:Int)),p.2.1,p.2.2.1,t.1,(gx p.2.2.2.1 (ia (gx p.2.1 (ia t.1) (0:Int))) Pb).2.2.2.2.2.2,p.2.2.2)) (0,t.2.1,(eG (k:=(.int .i64)) (gx p.2.1 (ia t.1) (0:Int)) t.2.2))).bind λe1=>
  ki ((Ka (t.1+(1:Int))),e1.1,e1.2))))
  (ki ((Ka (t.1+(1:Int))),t.2.1,t.2.2))))
  (ke ((t.2.1,t.2.2)))
 o:=λZ p e K=>so K (.exit 2) ⟨[(1,.loc 0 0),(3,.v (.all 0)),(4,.v (.mp 1)),(5,.v (.lit .i))],[Va],[.cells Rc,.Pe .i false .bool],0,0⟩ (((),(),p.1,()),((r7 p.t3 (p.t10,())),()),e.1,e.2,())
 ve:=⟨[1,3,4,5,26,27,28],[],[],[]⟩
 pe:=[(.exit 2,⟨[1,3,4,5],[],[],[]⟩)]
abbrev Bz:LD ((List Int)×Ba) ((List Ga)×(List (Int×Bool))) ((List Ga))where
 sk:=⟨[(1,.loc 0 0),(3,.v (.all 0)),(4,.v (.mp 1)),(5,.v (.lit .i))],[Va],[.cells Rc,.Pe .i false .bool],0,0⟩
 p:=λu=>(u.1.2.2.1,u.2.1.1.1,(q7 u.2.1.1.2))
 t:=λu=>(u.2.2.1,u.t3.1)
 n:=λp t=>(((),(),p.1,()),((r7 p.2 (p.t8,())),()),t.1,t.2,())
 st:=λY p t ki ke=>cond (decide ((0:Int)<(nt (fa t.2))))
  ((Ua (Az.m (p.1,p.1,(nt (fa p.1)),p.2)) (0,t.1,t.2)).bind λe1=>
  ki (e1.1,e1.2))
  (ke (t.1))
 o:=λZ p e K=>so K (.exit 0) ⟨[(3,.v (.all 0))],[],[.cells Rc],0,0⟩ (((),()),(),e,())
 ve:=⟨[1,3,4,5],[],[],[]⟩
 pe:=[(.exit 0,⟨[3],[],[],[]⟩)]
def bU{X:Type}(a:Ba)(K:(List Ga)->Option X):Option X:=
 ask (decide (0<=(nt (fa a.1)))&&decide ((nt (fa a.1))<=(nt (fa a.1)))&&decide (56 * (nt (fa a.1))<=70368744177664)&&decide ((nt (fa a.1))<9223372036854775808)) ((kE a).bind λr1=>
 ask (V.ua 0 (fa (fb (ia (nt (fa a.1))) ((false,([],[])):Ga)))) ((xu a).bind λr2=>
 (Ua (Bz.m (r2,a)) ((Wb (fb (ia (nt (fa a.1))) ((false,([],[])):Ga)) 0 (true,r1)),(Mu (k:=(.int .i64)) (0:Int) true ([]:List (Int×Bool))))).bind λe3=>
 K e3))
def bB:=λa=>bU a some
def W4:Spec:=sae.sp bB
noncomputable def aU:Env:=eE [] (Ra [(32,F4),(58,C3),(16,C5),(25,O4),(26,Fai)]) (qL 12 Kl.q (qL 7 Az.q (qL 5 Bz.q qN)))
theorem CP:LL C aU [1,10] Tryz.f21 10380575:=λhc=>
 lO hc Kl
theorem jX:LL C aU [1,10] Tryz.f21 9503:=λhc=>
 lO hc Az (hl:=(Vi (Ta (CP hc) fc)))
theorem kX:LL C aU [1,10] Tryz.f21 287:=λhc=>
 lO hc Bz (hl:=(Vi (Ta (jX hc) fc)))
theorem X4:OK (166020696663385964547) 21 (sae.sp bB):=
 fO (env:=aU) (za (cc I4 (cc D3 (cc D5 (cc P4 (cc Gai cn)))))) (fn:=Tryz.f21) (mc:=@bU) (by intros;simp only[bB,bU,nn]) (Ca:=[1,10]) (sh:=(.lit Rc)) (fz:=true) (hl:=λhc=>(Vi (Ta (kX hc) fc)))
end
end Go.U
end
