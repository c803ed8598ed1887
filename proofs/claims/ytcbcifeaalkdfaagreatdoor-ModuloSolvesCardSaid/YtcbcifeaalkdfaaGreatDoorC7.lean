/- The functions of the program as Lean functions, and that the evaluator says so. -/
import Derived.Test.YtcbcifeaalkdfaaGreatDoorC6
set_option linter.unusedVariables false
set_option linter.unusedSimpArgs false
set_option linter.unusedSectionVars false
open Int renaming toNat→ia,tmod→zb
open List renaming length→fa,set→Wb,replicate→fb
section
set_option maxRecDepth 100000
namespace Go.U
open Go Go.Proofs
noncomputable section
variable {C:V.Callee}
def Ead:FS (Y16) (Ga)where
 sk:=⟨(cL [(.agg Va),(.all 0),(.lit .bool),.i]),[.cells Rc],0⟩
 a:=λu=>((q8 u.1.1),u.1.2.2.1,u.1.t3.1,u.2.1)
 o:=λZ a r K=>kv K (.agg Mb) [.cells Rc] 0 (r.1,r.2.1,r.2.2,()) (a.t3,())
abbrev qz:PD ((List Bool)×Int×Bool×Ba×Bool×Bool×(List Ga)) (Bool×(List ga)×(List ga))where
 sk:=⟨[(1,.v (.all 0)),(2,.v (.lit .bool)),(3,.i),(4,.loc 0 0),(8,.loc 1 0),(9,.loc 2 0),(14,.v .bool)],[Va,(cL [.bool,.Xa,.Xa]),(cL [.bool,.Xa,.Xa])],[.cells Rc],0,1⟩
 p:=λu=>(r3 u.1.2 ((q8 u.2.1.1),u.2.1.2.1.1,u.2.1.2.2.1.1,u.2.2.1))
 st:=λY p ke=>cond p.2.2.1
  ((gE p.2.2.2.1).bind λr1=>
  ke ((true,r1.1,r1.2)))
  (ke ((p.2.2.2.2.2.1,[],[])))
 o:=λZ p e K=>so K (.normal) ⟨[(1,.v (.all 0)),(2,.v (.lit .bool)),(3,.i),(4,.loc 0 0),(8,.loc 1 0),(9,.loc 2 0)],[Va,(cL [.bool,.Xa,.Xa]),Mb],[.cells Rc],0,1⟩ (((),p.1,p.2.1,()),((r7 p.t3.1 (p.t3.1.t7,())),(p.t4.1,(),(),()),(e.1,e.2.1,e.2.2,()),()),p.t6,())
 ve:=⟨[1,2,3,4,8,9,14],[],[],[]⟩
 pe:=[(.normal,⟨[1,2,3,4,8,9],[],[(2,[.any,(.lit Ma),(.lit Ma)])],[]⟩)]
abbrev Bt:PD ((List Bool)×Int×Int×Int×Ba×Bool×Ga×(List Ga)) (Bool)where
 sk:=⟨[(1,.v (.all 0)),(2,.v (.lit .bool)),(3,.i),(4,.loc 0 0),(8,.loc 1 0),(9,.loc 2 0),(10,.i),(11,.i)],[Va,(cL [.bool,.Xa,.Xa]),Mb],[.cells Rc],0,1⟩
 p:=λu=>(r4 u.1.2 ((q8 u.2.1.1),u.2.1.2.1.1,(q3 u.2.1.2.2.1),u.2.2.1))
 st:=λY p ke=>ask (V.ua p.2.2.1 (fa p.1)) (cond (gx p.1 (ia p.2.2.1) false)
  (ask (V.ua p.2.2.1 (fa p.2.2.2.2.1.1)) (cond (decide (p.2.2.2.1=(0:Int)))
  (ke ((decide ((gx p.2.2.2.2.1.1 (ia p.2.2.1) Pb).2.2.2.2.2.2.1=p.2.1))))
  (cond (decide (p.2.2.2.1=(1:Int)))
  (ke ((decide ((gx p.2.2.2.2.1.1 (ia p.2.2.1) Pb).2.2.2.2.2.2.2=p.2.1))))
  (none))))
  (ke (false)))
 o:=λZ p e K=>so K (.normal) ⟨[(1,.v (.all 0)),(2,.v (.lit .bool)),(3,.i),(4,.loc 0 0),(8,.loc 1 0),(9,.loc 2 0),(10,.i),(11,.i),(43,.v .bool)],[Va,(cL [.bool,.Xa,.Xa]),Mb],[.cells Rc],0,1⟩ (((),(r4 p (e,()))),((r7 p.t4.1 (p.t4.1.t7,())),(p.t5.1,(),(),()),(p.t6.1.1,p.t6.1.2.1,p.t6.1.2.2,()),()),p.t7,())
 ve:=⟨[1,2,3,4,8,9,10,11],[],[],[]⟩
 pe:=[(.normal,⟨[1,2,3,4,8,9,10,11,43],[],[],[]⟩)]
abbrev Ct:PD ((List Bool)×Int×Int×Int×Bool×Ba×Bool×Ga×(List Ga)) (Bool×(List ga)×(List ga))where
 sk:=⟨[(1,.v (.all 0)),(2,.v (.lit .bool)),(3,.i),(4,.loc 0 0),(8,.loc 1 0),(9,.loc 2 0),(10,.i),(11,.i),(43,.v .bool)],[Va,(cL [.bool,.Xa,.Xa]),Mb],[.cells Rc],0,1⟩
 p:=λu=>(r5 u.1.2 ((q8 u.2.1.1),u.2.1.2.1.1,(q3 u.2.1.2.2.1),u.2.2.1))
 st:=λY p ke=>cond p.2.2.2.2.1
  (ask (V.ua p.2.2.1 (fa p.2.2.2.2.2.2.2.2)) ((zu (p.2.2.2.2.2.1,(gx p.2.2.2.2.2.2.2.2 (ia p.2.2.1) Kb),p.2.2.1,p.2.2.2.1)).bind λr1=>
  (cE (p.2.2.2.2.2.2.2.1,r1)).bind λr2=>
  ke ((r2.1,r2.2.1,r2.2.2))))
  (ke ((p.2.2.2.2.2.2.2.1.1,p.2.2.2.2.2.2.2.1.2.1,p.2.2.2.2.2.2.2.1.2.2)))
 o:=λZ p e K=>so K (.normal) ⟨[(1,.v (.all 0)),(2,.v (.lit .bool)),(3,.i),(4,.loc 0 0),(8,.loc 1 0),(9,.loc 2 0),(10,.i),(11,.i)],[Va,(cL [.bool,.Xa,.Xa]),Mb],[.cells Rc],0,1⟩ (((),(r4 p ())),((r7 p.t5.1 (p.t5.1.t7,())),(p.t6.1,(),(),()),(e.1,e.2.1,e.2.2,()),()),p.t8,())
 ve:=⟨[1,2,3,4,8,9,10,11,43],[],[],[]⟩
 pe:=[(.normal,⟨[1,2,3,4,8,9,10,11],[],[],[]⟩)]
abbrev Wk:LD ((List Bool)×Int×Int×(Ba×(Bool×(List Ga)))) (Int×Bool×(List ga)×(List ga)) (Bool×(List ga)×(List ga))where
 sk:=⟨[(1,.v (.all 0)),(2,.v (.lit .bool)),(3,.i),(4,.loc 0 0),(8,.loc 1 0),(9,.loc 2 0),(10,.i),(11,.i)],[Va,(cL [.bool,.Xa,.Xa]),Mb],[.cells Rc],0,1⟩
 p:=λu=>(r3 u.1.2 ((q8 u.2.1.1),(u.2.1.2.1.1,u.2.2.1)))
 t:=λu=>(u.1.t4.1,u.2.1.2.2.1.1,u.2.1.2.2.1.2.1,u.2.1.2.2.1.2.2.1)
 n:=λp t=>(((),(r3 p (t.1,()))),((r7 p.t3.1 (p.t3.1.t7,())),(p.t4.1,(),(),()),(t.2.1,t.2.2.1,t.t3,()),()),p.t5,())
 st:=λY p t ki ke=>cond (decide (t.1<(2:Int)))
  ((Bt.m (p.1,p.2.1,p.2.2.1,t.1,p.2.2.2.1,p.2.2.2.2.1,t.2,p.2.2.2.2.2)).bind λe1=>
  (Ct.m (p.1,p.2.1,p.2.2.1,t.1,e1,p.2.2.2.1,p.2.2.2.2.1,t.2,p.2.2.2.2.2)).bind λe2=>
  ki ((Ka (t.1+(1:Int))),e2.1,e2.2.1,e2.2.2))
  (ke ((t.2.1,t.2.2.1,t.2.2.2)))
 o:=λZ p e K=>so K (.exit 2) ⟨[(1,.v (.all 0)),(2,.v (.lit .bool)),(3,.i),(4,.loc 0 0),(8,.loc 1 0),(9,.loc 2 0),(10,.i)],[Va,(cL [.bool,.Xa,.Xa]),Mb],[.cells Rc],0,1⟩ (((),(r3 p ())),((r7 p.t3.1 (p.t3.1.t7,())),(p.t4.1,(),(),()),(e.1,e.2.1,e.2.2,()),()),p.t5,())
 ve:=⟨[1,2,3,4,8,9,10,11],[],[],[]⟩
 pe:=[(.exit 2,⟨[1,2,3,4,8,9,10],[],[],[]⟩)]
abbrev pz:LD ((List Bool)×Int×Ba×Bool×(List Ga)) (Int×Bool×(List ga)×(List ga)) (Bool×(List ga)×(List ga))where
 sk:=⟨[(1,.v (.all 0)),(2,.v (.lit .bool)),(3,.i),(4,.loc 0 0),(8,.loc 1 0),(9,.loc 2 0),(10,.i)],[Va,(cL [.bool,.Xa,.Xa]),Mb],[.cells Rc],0,1⟩
 p:=λu=>(u.1.2.1,u.1.2.2.1,(q8 u.2.1.1),u.2.1.2.1.1,u.2.2.1)
 t:=λu=>(u.1.t3.1,u.2.1.2.2.1.1,u.2.1.2.2.1.2.1,u.2.1.2.2.1.2.2.1)
 n:=λp t=>(((),p.1,p.2.1,t.1,()),((r7 p.2.2.1 (p.2.2.1.t7,())),(p.t3.1,(),(),()),(t.2.1,t.2.2.1,t.t3,()),()),p.t4,())
 st:=λY p t ki ke=>cond (decide (t.1<(nt (fa p.2.2.1.1))))
  ((Ua (Wk.m (p.1,p.2.1,t.1,p.2.2)) (0,t.2.1,t.2.2.1,t.2.2.2)).bind λe1=>
  ki ((Ka (t.1+(1:Int))),e1.1,e1.2.1,e1.2.2))
  (ke ((t.2.1,t.2.2.1,t.2.2.2)))
 o:=λZ p e K=>so K (.exit 0) ⟨[(8,.loc 0 0),(9,.loc 1 0)],[(cL [.bool,.Xa,.Xa]),Mb],[.cells Rc],0,1⟩ ((),((p.t3.1,(),(),()),(e.1,e.2.1,e.2.2,()),()),p.t4,())
 ve:=⟨[1,2,3,4,8,9,10],[],[],[]⟩
 pe:=[(.exit 0,⟨[8,9],[],[],[]⟩)]
def iT{X:Type}(a:Y16)(K:Ga->Option X):Option X:=
 (qz.m (a.2.1,a.2.2.1,(decide (a.2.2.1=(0:Int))),a.1,false,false,a.2.2.2)).bind λe1=>
 (Ua (pz.m (a.2.1,a.2.2.1,a.1,false,a.2.2.2)) (0,e1.1,e1.2.1,e1.2.2)).bind λe2=>
 K e2
def sq:=λa=>iT a some
def Jah:Spec:=Ead.sp sq
noncomputable def lH:Env:=eE [1000003,1000011,2000010] (Ra [(33,C4),(19,Z4),(36,X3)]) (qL 1000003 qz.q (qL 2000010 Bt.q (qL 1000011 Ct.q (qL 8 Wk.q (qL 5 pz.q qN)))))
theorem rW:LP C lH [4,8,9] Tryz.f61 27:=λhc=>
 pN (n':=λp=>(((),(r3 p ())),((r7 p.t3.1 (p.t3.1.t7,())),(p.t4.1,(),(),()),(p.t5.1,(),(),()),()),p.t6,())) 1000003 hc qz
theorem gP:LP C lH [4,8,9] Tryz.f61 140439:=λhc=>
 pN (n':=λp=>(((),(r4 p ())),((r7 p.t4.1 (p.t4.1.t7,())),(p.t5.1,(),(),()),(p.t6.1.1,p.t6.1.2.1,p.t6.1.2.2,()),()),p.t7,())) 2000010 hc Bt
theorem iP:LP C lH [4,8,9] Tryz.f61 205975:=λhc=>
 pN (n':=λp=>(((),(r5 p ())),((r7 p.t5.1 (p.t5.1.t7,())),(p.t6.1,(),(),()),(p.t7.1.1,p.t7.1.2.1,p.t7.1.2.2,()),()),p.t8,())) 1000011 hc Ct
theorem pW:LL C lH [4,8,9] Tryz.f61 9367:=λhc=>
 lO hc Wk (hl:=(Vi (Ta (gP hc) (Ta (iP hc) fc))))
theorem qW:LL C lH [4,8,9] Tryz.f61 151:=λhc=>
 lO hc pz (hl:=(Vi (Ta (pW hc) fc)))
theorem Kah:OK (9) 61 (Ead.sp sq):=
 fO (env:=lH) (za (cc D4 (cc l5 (cc Z3 cn)))) (fn:=Tryz.f61) (mc:=@iT) (by intros;simp only[sq,iT,nn]) (Ca:=[4,8,9]) (sh:=(.agg [.any,(.lit Ma),(.lit Ma)])) (fz:=true) (hl:=λhc=>(Vi (Ta (rW hc) (Ta (qW hc) fc))))
def R6:FS (ga×ga) (Bool)where
 sk:=⟨(cL [(.agg La),(.agg La)]),[],0⟩
 a:=λu=>((q3 u.1.1),u.1.2.1.1,(u.1.2.1.2.1,u.1.2.1.2.2.1))
 o:=λZ a r K=>kv K (.bool) [] 0 r ()
def RJ{X:Type}(a:ga×ga)(K:Bool->Option X):Option X:=
 cond a.1.1
 (K a.1.1)
 (cond a.2.1
 (K a.1.1)
 (cond (decide (a.1.2.1=(0:Int)))
 ((wu (a.2,a.1.2.2)).bind λr1=>
 K r1)
 (cond (!(decide (a.2.2.1=(0:Int))))
 (cond (decide (a.2.2.1=(0:Int)))
 (none)
 (cond (decide ((zb a.1.2.1 a.2.2.1)=(0:Int)))
 (cond (decide (a.2.2.1=(0:Int)))
 (none)
 (K (decide ((zb (Ka (a.1.2.2-a.2.2.2)) a.2.2.1)=(0:Int)))))
 (K false)))
 (K false))))
def Sz:=λa=>RJ a some
def aab:Spec:=R6.sp Sz
noncomputable def Haj:Env:=eE [] (Ra [(65,E2)]) qN
theorem bab:OK (2) 126 (R6.sp Sz):=
 fO (env:=Haj) (za (cc J2 cn)) (fn:=Tryz.f126) (mc:=@RJ) (by intros;simp only[Sz,RJ,nn]) (Ca:=[2,3])
def rad:FS (Y3) (Bool)where
 sk:=⟨(cL [(.lit Ma),(.lit Ma)]),[],0⟩
 a:=λu=>(u.1.1,u.1.2.1)
 o:=λZ a r K=>kv K (.bool) [] 0 r ()
abbrev AD:LD (((List ga)×(List ga))) (Int) ((Unit) ⊕ (Unit))where
 sk:=⟨[(0,.v (.lit Ma)),(1,.v (.lit Ma)),(5,.i)],[],[],0,0⟩
 p:=λu=>(u.1.1,u.1.2.1)
 t:=λu=>u.1.2.2.1
 n:=λp t=>((p.1,p.2,t,()),(),())
 st:=λY p t ki ke=>cond (decide (t<(nt (fa p.1))))
  (ask (V.ua t (fa p.1)) (ask (V.ua t (fa p.2)) ((Sz ((gx p.1 (ia t) Aa),(gx p.2 (ia t) Aa))).bind λr1=>
  cond (!r1)
  (ke (.inl ()))
  (ki ((Ka (t+(1:Int))))))))
  (ke (.inr (())))
 o:=λZ p e K=>Sum.elim (λe=>so K (.ret) ⟨[(4,.v .bool)],[],[],0,0⟩ ((false,()),(),())) (λe=>so K (.exit 0) ⟨[],[],[],0,0⟩ ((),(),())) e
 ve:=⟨[0,1,5],[],[],[]⟩
 pe:=[(.ret,⟨[4],[],[],[]⟩),(.exit 0,⟨[],[],[],[]⟩)]
def YS{X:Type}(a:Y3)(K:Bool->Option X):Option X:=
 (Ua (AD.m a) 0).bind λe1=>
 Sum.elim (λe2=>K false)
 (λe3=>K true) e1
def yD:=λa=>YS a some
def wah:Spec:=rad.sp yD
noncomputable def sad:Env:=eE [] (Ra [(126,aab)]) (qL 2 AD.q qN)
theorem oW:LL C sad [] Tryz.f75 37:=λhc=>
 lO hc AD
theorem xah:OK (3) 75 (rad.sp yD):=
 fO (env:=sad) (za (cc bab cn)) (fn:=Tryz.f75) (mc:=@YS) (by intros;simp only[yD,YS,nn]) (hl:=λhc=>(Vi (Ta (oW hc) fc)))
def hae:FS (Ga×Ga) (Bool)where
 sk:=⟨(cL [(.agg Mb),(.agg Mb)]),[],0⟩
 a:=λu=>((q3 u.1.1),u.1.2.1.1,(u.1.2.1.2.1,u.1.2.1.2.2.1))
 o:=λZ a r K=>kv K (.bool) [] 0 r ()
def OT{X:Type}(a:Ga×Ga)(K:Bool->Option X):Option X:=
 cond (!a.1.1)
 (K (!a.1.1))
 (cond (!a.2.1)
 (K (!a.1.1))
 ((yD (a.1.2.1,a.2.2.1)).bind λr1=>
 cond r1
 ((yD (a.1.2.2,a.2.2.2)).bind λr2=>
 K r2)
 (K false)))
def ZA:=λa=>OT a some
def x4:Spec:=hae.sp ZA
noncomputable def Oao:Env:=eE [] (Ra [(75,wah)]) qN
theorem y4:OK (4) 35 (hae.sp ZA):=
 fO (env:=Oao) (za (cc xah cn)) (fn:=Tryz.f35) (mc:=@OT) (by intros;simp only[ZA,OT,nn]) (Ca:=[2,3])
def Dad:FS (Ga×Ga) (Bool)where
 sk:=⟨(cL [(.agg Mb),(.agg Mb)]),[],0⟩
 a:=λu=>((q3 u.1.1),u.1.2.1.1,(u.1.2.1.2.1,u.1.2.1.2.2.1))
 o:=λZ a r K=>kv K (.bool) [] 0 r ()
def fT{X:Type}(a:Ga×Ga)(K:Bool->Option X):Option X:=
 cond (a.1.1==a.2.1)
 (cond (decide ((nt (fa a.1.2.1))=(nt (fa a.2.2.1))))
 (cond (decide ((nt (fa a.1.2.2))=(nt (fa a.2.2.2))))
 ((ZA (a.1,a.2)).bind λr1=>
 cond r1
 ((ZA (a.2,a.1)).bind λr2=>
 K r2)
 (K false))
 (K false))
 (K false))
 (K false)
def kH:=λa=>fT a some
def Gah:Spec:=Dad.sp kH
noncomputable def zao:Env:=eE [] (Ra [(35,x4)]) qN
theorem Hah:OK (5) 62 (Dad.sp kH):=
 fO (env:=zao) (za (cc y4 cn)) (fn:=Tryz.f62) (mc:=@fT) (by intros;simp only[kH,fT,nn]) (Ca:=[2,3])
def rae:FS (Ba) ((List Ga))where
 sk:=⟨(.cons (.agg Va) .nil),[],0⟩
 a:=λu=>(q8 u.1.1)
 o:=λZ a r K=>kv K (.lit Rc) [] 0 r ()
abbrev yz:LD (((List Bool)×((List Int)×Ba))) (Bool×Int×(List Ga)) (Bool×(List Ga))where
 sk:=⟨[(1,.loc 0 0),(3,.v (.all 0)),(4,.v (.lit .bool)),(5,.v (.lit .i)),(6,.v .bool),(7,.i)],[Va],[.cells Rc],0,0⟩
 p:=λu=>(u.1.2.1,(u.1.2.2.1,(q8 u.2.1.1)))
 t:=λu=>(u.1.t3.1,u.1.t4.1,u.2.2.1)
 n:=λp t=>(((),p.1,p.2.1,t.1,t.2.1,()),((r7 p.2.2 (p.t9,())),()),t.2.2,())
 st:=λY p t ki ke=>cond (decide (t.2.1<(nt (fa p.2.1))))
  (ask (V.ua t.2.1 (fa p.2.1)) ((sq (p.2.2,p.1,(gx p.2.1 (ia t.2.1) (0:Int)),t.2.2)).bind λr1=>
  ask (V.ua (gx p.2.1 (ia t.2.1) (0:Int)) (fa t.2.2)) ((kH (r1,(gx t.2.2 (ia (gx p.2.1 (ia t.2.1) (0:Int))) Kb))).bind λr2=>
  cond (!r2)
  (ask (V.ua (gx p.2.1 (ia t.2.1) (0:Int)) (fa t.2.2)) (ki (true,(Ka (t.2.1+(1:Int))),(Wb t.2.2 (ia (gx p.2.1 (ia t.2.1) (0:Int))) r1))))
  (ki (t.1,(Ka (t.2.1+(1:Int))),t.2.2)))))
  (ke ((t.1,t.2.2)))
 o:=λZ p e K=>so K (.exit 2) ⟨[(1,.loc 0 0),(3,.v (.all 0)),(4,.v (.lit .bool)),(5,.v (.lit .i)),(6,.v .bool)],[Va],[.cells Rc],0,0⟩ (((),p.1,p.2.1,e.1,()),((r7 p.2.2 (p.t9,())),()),e.2,())
 ve:=⟨[1,3,4,5,6,7],[],[],[]⟩
 pe:=[(.exit 2,⟨[1,3,4,5,6],[],[],[]⟩)]
abbrev zz:LD ((List Bool)×(List Int)×Ba) (Bool×(List Ga)) ((List Ga))where
 sk:=⟨[(1,.loc 0 0),(3,.v (.all 0)),(4,.v (.lit .bool)),(5,.v (.lit .i)),(6,.v .bool)],[Va],[.cells Rc],0,0⟩
 p:=λu=>(u.1.2.1,u.1.2.2.1,u.2.1.1.1,(q7 u.2.1.1.2))
 t:=λu=>(u.1.t3.1,u.2.2.1)
 n:=λp t=>(((),p.1,p.2.1,t.1,()),((r7 p.2.2 (p.t9,())),()),t.2,())
 st:=λY p t ki ke=>cond t.1
  ((Ua (yz.m p) (false,0,t.2)).bind λe1=>
  ki (e1.1,e1.2))
  (ke (t.2))
 o:=λZ p e K=>so K (.exit 0) ⟨[(3,.v (.all 0))],[],[.cells Rc],0,0⟩ (((),()),(),e,())
 ve:=⟨[1,3,4,5,6],[],[],[]⟩
 pe:=[(.exit 0,⟨[3],[],[],[]⟩)]
def ZT{X:Type}(a:Ba)(K:(List Ga)->Option X):Option X:=
 ask (decide (0<=(nt (fa a.1)))&&decide ((nt (fa a.1))<=(nt (fa a.1)))&&decide (56 * (nt (fa a.1))<=70368744177664)&&decide ((nt (fa a.1))<9223372036854775808)) ((ED (a,(-1))).bind λr1=>
 (mH a).bind λr2=>
 (Ua (zz.m (r1,r2,a)) (true,(fb (ia (nt (fa a.1))) ((false,([],[])):Ga)))).bind λe3=>
 K e3)
def pE:=λa=>ZT a some
def Mai:Spec:=rae.sp pE
noncomputable def V4:Env:=eE [] (Ra [(59,X2),(60,Lah),(61,Jah),(62,Gah)]) (qL 8 yz.q (qL 5 zz.q qN))
theorem gX:LL C V4 [1,9] Tryz.f22 19759:=λhc=>
 lO hc yz
theorem iX:LL C V4 [1,9] Tryz.f22 303:=λhc=>
 lO hc zz (hl:=(Vi (Ta (gX hc) fc)))
theorem Nai:OK (10) 22 (rae.sp pE):=
 fO (env:=V4) (za (cc Z2 (cc Mah (cc Kah (cc Hah cn))))) (fn:=Tryz.f22) (mc:=@ZT) (by intros;simp only[pE,ZT,nn]) (Ca:=[1,9]) (sh:=(.lit Rc)) (fz:=true) (hl:=λhc=>(Vi (Ta (iX hc) fc)))
def gT:FS (Y17) (Ga)where
 sk:=⟨(cL [(.agg Va),(.lit Rc),(.lit .bool),.i]),[],0⟩
 a:=λu=>((q8 u.1.1),u.1.2.1,u.1.2.2.1,u.1.t3.1)
 o:=λZ a r K=>kv K (.agg Mb) [] 0 (r.1,r.2.1,r.2.2,()) ()
abbrev DD:PD (((List Ga)×((List Bool)×Int))×Bool×Ba×Bool×Bool) (Bool×(List ga)×(List ga))where
 sk:=⟨[(1,.v (.lit Rc)),(2,.v (.lit .bool)),(3,.i),(4,.loc 0 0),(8,.loc 1 0),(9,.loc 2 0),(14,.v .bool)],[Va,(cL [.bool,.Xa,.Xa]),(cL [.bool,.Xa,.Xa])],[],0,0⟩
 p:=λu=>((q3 u.1),u.1.t3.1,(q8 u.2.1.1),u.2.1.2.1.1,u.2.1.2.2.1.1)
 st:=λY p ke=>cond p.2.1
  ((gE p.2.2.1).bind λr1=>
  ke ((true,r1.1,r1.2)))
  (ke ((p.2.2.2.2,[],[])))
 o:=λZ p e K=>so K (.normal) ⟨[(1,.v (.lit Rc)),(2,.v (.lit .bool)),(3,.i),(4,.loc 0 0),(8,.loc 1 0),(9,.loc 2 0)],[Va,(cL [.bool,.Xa,.Xa]),Mb],[],0,0⟩ ((p.1.1,p.1.2.1,p.1.2.2,()),((r7 p.2.2.1 (p.2.2.1.t7,())),(p.t3.1,(),(),()),(e.1,e.2.1,e.2.2,()),()),())
 ve:=⟨[1,2,3,4,8,9,14],[],[],[]⟩
 pe:=[(.normal,⟨[1,2,3,4,8,9],[],[(2,[.any,(.lit Ma),(.lit Ma)])],[]⟩)]
abbrev mz:PD (((List Ga)×((List Bool)×Int))×Int×Int×(Ba×Bool)×Ga) (Bool)where
 sk:=⟨[(1,.v (.lit Rc)),(2,.v (.lit .bool)),(3,.i),(4,.loc 0 0),(8,.loc 1 0),(9,.loc 2 0),(10,.i),(11,.i)],[Va,(cL [.bool,.Xa,.Xa]),Mb],[],0,0⟩
 p:=λu=>((q3 u.1),u.1.t3.1,u.1.t4.1,((q8 u.2.1.1),u.2.1.2.1.1),u.2.1.2.2.1.1,(u.2.1.2.2.1.2.1,u.2.1.2.2.1.2.2.1))
 st:=λY p ke=>ask (V.ua p.2.1 (fa p.1.2.1)) (cond (gx p.1.2.1 (ia p.2.1) false)
  (ask (V.ua p.2.1 (fa p.2.2.2.1.1.1)) (cond (decide (p.2.2.1=(0:Int)))
  (ke ((decide ((gx p.2.2.2.1.1.1 (ia p.2.1) Pb).2.2.2.2.2.2.1=p.1.2.2))))
  (cond (decide (p.2.2.1=(1:Int)))
  (ke ((decide ((gx p.2.2.2.1.1.1 (ia p.2.1) Pb).2.2.2.2.2.2.2=p.1.2.2))))
  (none))))
  (ke (false)))
 o:=λZ p e K=>so K (.normal) ⟨[(1,.v (.lit Rc)),(2,.v (.lit .bool)),(3,.i),(4,.loc 0 0),(8,.loc 1 0),(9,.loc 2 0),(10,.i),(11,.i),(43,.v .bool)],[Va,(cL [.bool,.Xa,.Xa]),Mb],[],0,0⟩ ((p.1.1,p.1.2.1,p.1.2.2,p.2.1,p.2.2.1,e,()),((r7 p.t3.1.1 (p.t3.1.1.t7,())),(p.t3.1.2,(),(),()),(p.t4.1,p.t5.1,p.t6,()),()),())
 ve:=⟨[1,2,3,4,8,9,10,11],[],[],[]⟩
 pe:=[(.normal,⟨[1,2,3,4,8,9,10,11,43],[],[],[]⟩)]
abbrev oz:PD (((List Ga)×((List Bool)×Int))×Int×Int×Bool×(Ba×Bool)×Ga) (Bool×(List ga)×(List ga))where
 sk:=⟨[(1,.v (.lit Rc)),(2,.v (.lit .bool)),(3,.i),(4,.loc 0 0),(8,.loc 1 0),(9,.loc 2 0),(10,.i),(11,.i),(43,.v .bool)],[Va,(cL [.bool,.Xa,.Xa]),Mb],[],0,0⟩
 p:=λu=>((q3 u.1),(r3 u.1.t3 (((q8 u.2.1.1),u.2.1.2.1.1),u.2.1.2.2.1.1,(u.2.1.2.2.1.2.1,u.2.1.2.2.1.2.2.1))))
 st:=λY p ke=>cond p.2.2.2.1
  (ask (V.ua p.2.1 (fa p.1.1)) ((zu (p.2.2.2.2.1.1,(gx p.1.1 (ia p.2.1) Kb),p.2.1,p.2.2.1)).bind λr1=>
  (cE (p.2.2.2.2.2,r1)).bind λr2=>
  ke ((r2.1,r2.2.1,r2.2.2))))
  (ke ((p.2.2.2.2.2.1,p.2.2.2.2.2.2.1,p.2.2.2.2.2.2.2)))
 o:=λZ p e K=>so K (.normal) ⟨[(1,.v (.lit Rc)),(2,.v (.lit .bool)),(3,.i),(4,.loc 0 0),(8,.loc 1 0),(9,.loc 2 0),(10,.i),(11,.i)],[Va,(cL [.bool,.Xa,.Xa]),Mb],[],0,0⟩ ((p.1.1,p.1.2.1,p.1.2.2,p.2.1,p.2.2.1,()),((r7 p.t4.1.1 (p.t4.1.1.t7,())),(p.t4.1.2,(),(),()),(e.1,e.2.1,e.2.2,()),()),())
 ve:=⟨[1,2,3,4,8,9,10,11,43],[],[],[]⟩
 pe:=[(.normal,⟨[1,2,3,4,8,9,10,11],[],[],[]⟩)]
abbrev BD:LD (((List Ga)×((List Bool)×Int))×Int×(Ba×Bool)) (Int×Bool×(List ga)×(List ga)) (Bool×(List ga)×(List ga))where
 sk:=⟨[(1,.v (.lit Rc)),(2,.v (.lit .bool)),(3,.i),(4,.loc 0 0),(8,.loc 1 0),(9,.loc 2 0),(10,.i),(11,.i)],[Va,(cL [.bool,.Xa,.Xa]),Mb],[],0,0⟩
 p:=λu=>((q3 u.1),u.1.t3.1,(q8 u.2.1.1),u.2.1.2.1.1)
 t:=λu=>(u.1.t4.1,u.2.1.2.2.1.1,u.2.1.2.2.1.2.1,u.2.1.2.2.1.2.2.1)
 n:=λp t=>((p.1.1,p.1.2.1,p.1.2.2,p.2.1,t.1,()),((r7 p.2.2.1 (p.2.2.1.t7,())),(p.t3,(),(),()),(t.2.1,t.2.2.1,t.t3,()),()),())
 st:=λY p t ki ke=>cond (decide (t.1<(2:Int)))
  ((mz.m (p.1,p.2.1,t.1,p.2.2,t.2)).bind λe1=>
  (oz.m (p.1,p.2.1,t.1,e1,p.2.2,t.2)).bind λe2=>
  ki ((Ka (t.1+(1:Int))),e2.1,e2.2.1,e2.2.2))
  (ke ((t.2.1,t.2.2.1,t.2.2.2)))
 o:=λZ p e K=>so K (.exit 2) ⟨[(1,.v (.lit Rc)),(2,.v (.lit .bool)),(3,.i),(4,.loc 0 0),(8,.loc 1 0),(9,.loc 2 0),(10,.i)],[Va,(cL [.bool,.Xa,.Xa]),Mb],[],0,0⟩ ((p.1.1,p.1.2.1,p.1.2.2,p.2.1,()),((r7 p.2.2.1 (p.2.2.1.t7,())),(p.t3,(),(),()),(e.1,e.2.1,e.2.2,()),()),())
 ve:=⟨[1,2,3,4,8,9,10,11],[],[],[]⟩
 pe:=[(.exit 2,⟨[1,2,3,4,8,9,10],[],[],[]⟩)]
abbrev CD:LD (((List Ga)×((List Bool)×Int))×Ba×Bool) (Int×Bool×(List ga)×(List ga)) (Bool×(List ga)×(List ga))where
 sk:=⟨[(1,.v (.lit Rc)),(2,.v (.lit .bool)),(3,.i),(4,.loc 0 0),(8,.loc 1 0),(9,.loc 2 0),(10,.i)],[Va,(cL [.bool,.Xa,.Xa]),Mb],[],0,0⟩
 p:=λu=>((q3 u.1),(q8 u.2.1.1),u.2.1.2.1.1)
 t:=λu=>(u.1.t3.1,u.2.1.2.2.1.1,u.2.1.2.2.1.2.1,u.2.1.2.2.1.2.2.1)
 n:=λp t=>((p.1.1,p.1.2.1,p.1.2.2,t.1,()),((r7 p.2.1 (p.2.1.t7,())),(p.2.2,(),(),()),(t.2.1,t.2.2.1,t.t3,()),()),())
 st:=λY p t ki ke=>cond (decide (t.1<(nt (fa p.2.1.1))))
  ((Ua (BD.m (p.1,t.1,p.2)) (0,t.2.1,t.2.2.1,t.2.2.2)).bind λe1=>
  ki ((Ka (t.1+(1:Int))),e1.1,e1.2.1,e1.2.2))
  (ke ((t.2.1,t.2.2.1,t.2.2.2)))
 o:=λZ p e K=>so K (.exit 0) ⟨[(8,.loc 0 0),(9,.loc 1 0)],[(cL [.bool,.Xa,.Xa]),Mb],[],0,0⟩ ((),((p.2.2,(),(),()),(e.1,e.2.1,e.2.2,()),()),())
 ve:=⟨[1,2,3,4,8,9,10],[],[],[]⟩
 pe:=[(.exit 0,⟨[8,9],[],[],[]⟩)]
def aJ{X:Type}(a:Y17)(K:Ga->Option X):Option X:=
 (DD.m (a.2,(decide (a.2.2.2=(0:Int))),a.1,false,false)).bind λe1=>
 (Ua (CD.m (a.2,a.1,false)) (0,e1.1,e1.2.1,e1.2.2)).bind λe2=>
 K e2
def Zw:=λa=>aJ a some
def S2:Spec:=gT.sp Zw
noncomputable def vt:Env:=eE [1000003,1000011,2000010] (Ra [(33,C4),(19,Z4),(36,X3)]) (qL 1000003 DD.q (qL 2000010 mz.q (qL 1000011 oz.q (qL 8 BD.q (qL 5 CD.q qN)))))
theorem FM:LP C vt [4,8,9] Tryz.f61 27:=λhc=>
 pN (n':=λp=>((p.1.1,p.1.2.1,p.1.2.2,p.2.1,()),((r7 p.2.2.1 (p.2.2.1.t7,())),(p.t3.1,(),(),()),(p.t4,(),(),()),()),())) 1000003 hc DD
theorem YI:LP C vt [4,8,9] Tryz.f61 140439:=λhc=>
 pN (n':=λp=>((p.1.1,p.1.2.1,p.1.2.2,p.2.1,p.2.2.1,()),((r7 p.t3.1.1 (p.t3.1.1.t7,())),(p.t3.1.2,(),(),()),(p.t4.1,p.t5.1,p.t6,()),()),())) 2000010 hc mz
theorem ZI:LP C vt [4,8,9] Tryz.f61 205975:=λhc=>
 pN (n':=λp=>((p.1.1,p.1.2.1,p.1.2.2,(r3 p.2 ())),((r7 p.t4.1.1 (p.t4.1.1.t7,())),(p.t4.1.2,(),(),()),(p.t5.1,p.t6.1,p.t7,()),()),())) 1000011 hc oz
theorem DM:LL C vt [4,8,9] Tryz.f61 9367:=λhc=>
 lO hc BD (hl:=(Vi (Ta (YI hc) (Ta (ZI hc) fc))))
theorem EM:LL C vt [4,8,9] Tryz.f61 151:=λhc=>
 lO hc CD (hl:=(Vi (Ta (DM hc) fc)))
theorem U2:OK (9) 61 (gT.sp Zw):=
 fO (env:=vt) (za (cc D4 (cc l5 (cc Z3 cn)))) (fn:=Tryz.f61) (mc:=@aJ) (by intros;simp only[Zw,aJ,nn]) (Ca:=[4,8,9]) (sh:=(.agg [.any,(.lit Ma),(.lit Ma)])) (fz:=true) (hl:=λhc=>(Vi (Ta (FM hc) (Ta (EM hc) fc))))
def oae:FS (Y1) (Bool)where
 sk:=⟨(cL [(.agg Va),(.lit Rc)]),[],0⟩
 a:=λu=>((q8 u.1.1),u.1.2.1)
 o:=λZ a r K=>kv K (.bool) [] 0 r ()
abbrev wz:LD ((List Ga)×(List Bool)×Ba) (Int) ((Unit) ⊕ (Unit))where
 sk:=⟨[(1,.v (.lit Rc)),(2,.loc 0 0),(5,.v (.lit .bool)),(6,.i)],[Va],[],0,0⟩
 p:=λu=>(u.1.1,u.1.2.1,u.2.1.1.1,(q7 u.2.1.1.2))
 t:=λu=>u.1.2.2.1
 n:=λp t=>((p.1,p.2.1,t,()),((r7 p.2.2 (p.t9,())),()),())
 st:=λY p t ki ke=>cond (decide (t<(nt (fa p.1))))
  ((Zw (p.2.2,p.1,p.2.1,t)).bind λr1=>
  ask (V.ua t (fa p.1)) ((ZA (r1,(gx p.1 (ia t) Kb))).bind λr2=>
  cond (!r2)
  (ke (.inl ()))
  (ki ((Ka (t+(1:Int)))))))
  (ke (.inr (())))
 o:=λZ p e K=>Sum.elim (λe=>so K (.ret) ⟨[(4,.v .bool)],[],[],0,0⟩ ((false,()),(),())) (λe=>so K (.exit 0) ⟨[],[],[],0,0⟩ ((),(),())) e
 ve:=⟨[1,2,5,6],[],[],[]⟩
 pe:=[(.ret,⟨[4],[],[],[]⟩),(.exit 0,⟨[],[],[],[]⟩)]
def XT{X:Type}(a:Y1)(K:Bool->Option X):Option X:=
 cond (!(decide ((nt (fa a.2))=(nt (fa a.1.1)))))
 (K false)
 ((ED (a.1,(-1))).bind λr1=>
 (Ua (wz.m (a.2,r1,a.1)) 0).bind λe2=>
 Sum.elim (λe3=>K false)
 (λe4=>K true) e2)
def wH:=λa=>XT a some
def Iai:Spec:=oae.sp wH
noncomputable def pae:Env:=eE [] (Ra [(59,X2),(61,S2),(35,x4)]) (qL 5 wz.q qN)
theorem cX:LL C pae [2] Tryz.f24 151:=λhc=>
 lO hc wz
theorem Jai:OK (10) 24 (oae.sp wH):=
 fO (env:=pae) (za (cc Z2 (cc U2 (cc y4 cn)))) (fn:=Tryz.f24) (mc:=@XT) (by intros;simp only[wH,XT,nn]) (Ca:=[2]) (hl:=λhc=>(Vi (Ta (cX hc) fc)))
def wae:FS (Ga×Ga) (Bool)where
 sk:=⟨(cL [(.agg Mb),(.agg Mb)]),[],0⟩
 a:=λu=>((q3 u.1.1),u.1.2.1.1,(u.1.2.1.2.1,u.1.2.1.2.2.1))
 o:=λZ a r K=>kv K (.bool) [] 0 r ()
abbrev uE:LD ((Ga×Ga)) (Int) ((Unit) ⊕ (Unit))where
 sk:=⟨[(2,.loc 0 0),(3,.loc 1 0),(5,.i)],[Mb,Mb],[],0,0⟩
 p:=λu=>((q3 u.2.1.1),(q3 u.2.1.2.1))
 t:=λu=>u.1.1
 n:=λp t=>((t,()),((p.1.1,p.1.2.1,p.1.2.2,()),(p.2.1,p.2.2.1,p.t3,()),()),())
 st:=λY p t ki ke=>cond (decide (t<(nt (fa p.1.2.1))))
  (ask (V.ua t (fa p.1.2.1)) (ask (V.ua t (fa p.2.2.1)) (cond (!(((gx p.1.2.1 (ia t) Aa).1==(gx p.2.2.1 (ia t) Aa).1)&&((decide ((gx p.1.2.1 (ia t) Aa).2.1=(gx p.2.2.1 (ia t) Aa).2.1))&&((decide ((gx p.1.2.1 (ia t) Aa).2.2=(gx p.2.2.1 (ia t) Aa).2.2))&&true))))
  (ke (.inl ()))
  (ki ((Ka (t+(1:Int))))))))
  (ke (.inr (())))
 o:=λZ p e K=>Sum.elim (λe=>so K (.ret) ⟨[(4,.v .bool)],[],[],0,0⟩ ((false,()),(),())) (λe=>so K (.exit 0) ⟨[(2,.loc 0 0),(3,.loc 1 0)],[Mb,Mb],[],0,0⟩ ((),((p.1.1,p.1.2.1,p.1.2.2,()),(p.2.1,p.2.2.1,p.t3,()),()),())) e
 ve:=⟨[2,3,5],[],[],[]⟩
 pe:=[(.ret,⟨[4],[],[],[]⟩),(.exit 0,⟨[2,3],[],[],[]⟩)]
abbrev tE:LD ((Ga×Ga)) (Int) ((Unit) ⊕ (Unit))where
 sk:=⟨[(2,.loc 0 0),(3,.loc 1 0),(6,.i)],[Mb,Mb],[],0,0⟩
 p:=λu=>((q3 u.2.1.1),(q3 u.2.1.2.1))
 t:=λu=>u.1.1
 n:=λp t=>((t,()),((p.1.1,p.1.2.1,p.1.2.2,()),(p.2.1,p.2.2.1,p.t3,()),()),())
 st:=λY p t ki ke=>cond (decide (t<(nt (fa p.1.2.2))))
  (ask (V.ua t (fa p.1.2.2)) (ask (V.ua t (fa p.2.2.2)) (cond (!(((gx p.1.2.2 (ia t) Aa).1==(gx p.2.2.2 (ia t) Aa).1)&&((decide ((gx p.1.2.2 (ia t) Aa).2.1=(gx p.2.2.2 (ia t) Aa).2.1))&&((decide ((gx p.1.2.2 (ia t) Aa).2.2=(gx p.2.2.2 (ia t) Aa).2.2))&&true))))
  (ke (.inl ()))
  (ki ((Ka (t+(1:Int))))))))
  (ke (.inr (())))
 o:=λZ p e K=>Sum.elim (λe=>so K (.ret) ⟨[(4,.v .bool)],[],[],0,0⟩ ((false,()),(),())) (λe=>so K (.exit 2) ⟨[],[],[],0,0⟩ ((),(),())) e
 ve:=⟨[2,3,6],[],[],[]⟩
 pe:=[(.ret,⟨[4],[],[],[]⟩),(.exit 2,⟨[],[],[],[]⟩)]
def dU{X:Type}(a:Ga×Ga)(K:Bool->Option X):Option X:=
 cond (!(a.1.1==a.2.1))
 (K false)
 (cond (!(decide ((nt (fa a.1.2.1))=(nt (fa a.2.2.1)))))
 (K false)
 (cond (!(decide ((nt (fa a.1.2.2))=(nt (fa a.2.2.2)))))
 (K false)
 ((Ua (uE.m a) 0).bind λe1=>
 Sum.elim (λe2=>K false)
 (λe3=>(Ua (tE.m a) 0).bind λe4=>
 Sum.elim (λe5=>K false)
 (λe6=>K true) e4) e1)))
def yH:=λa=>dU a some
def Vai:Spec:=wae.sp yH
noncomputable def x5:Env:=eE [] (Ra []) (qL 4 uE.q (qL 9 tE.q qN))
theorem rX:LL C x5 [2,3] Tryz.f17 75:=λhc=>
 lO hc uE
theorem qX:LL C x5 [2,3] Tryz.f17 151:=λhc=>
 lO hc tE
theorem Wai:OK (1) 17 (wae.sp yH):=
 fO (env:=x5) (za cn) (fn:=Tryz.f17) (mc:=@dU) (by intros;simp only[yH,dU,nn]) (Ca:=[2,3]) (hl:=λhc=>(Vi (Ta (rX hc) (Ta (qX hc) fc))))
end
end Go.U
end

