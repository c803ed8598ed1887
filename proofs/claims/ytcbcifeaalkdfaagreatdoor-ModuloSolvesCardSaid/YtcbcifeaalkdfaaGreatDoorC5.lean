/- The functions of the program as Lean functions, and that the evaluator says so. -/
import Derived.Test.YtcbcifeaalkdfaaGreatDoorC4
set_option linter.unusedVariables false
set_option linter.unusedSimpArgs false
set_option linter.unusedSectionVars false
open ByteArray renaming size→Md
open Int renaming toNat→ia,tmod→zb,tdiv→jb
open List renaming length→fa,set→Wb,replicate→fb
section
set_option maxRecDepth 100000
namespace Go.U
open Go Go.Proofs
noncomputable section
variable {C:V.Callee}
def K5:FS (Int) (Int)where
 sk:=⟨(.cons .i .nil),[],0⟩
 a:=λu=>u.1.1
 o:=λZ a r K=>kv K .i [] 0 r ()
def NP{X:Type}(a:Int)(K:Int->Option X):Option X:=
 cond (decide ((4611686018427387904:Int)<=a))
 (K 1)
 (cond (decide (a<=(-4611686018427387904:Int)))
 (K (-1))
 (K 0))
def lJ:=λa=>NP a some
def faa:Spec:=K5.sp lJ
noncomputable def caj:Env:=eE [] (Ra []) qN
theorem gaa:OK (1) 158 (K5.sp lJ):=
 fO (env:=caj) (za cn) (fn:=Tryz.f158) (mc:=@NP) (by intros;simp only[lJ,NP,nn])
def Z6:FS (Int) (ByteArray)where
 sk:=⟨(.cons .i .nil),[],0⟩
 a:=λu=>u.1.1
 o:=λZ a r K=>kv K (.str) [] 0 r ()
def qQ{X:Type}(a:Int)(K:ByteArray->Option X):Option X:=
 (lJ a).bind λr1=>
 cond (decide (r1=(1:Int)))
 (none)
 (cond (decide (r1=(-1:Int)))
 (none)
 ((Tz (a,10)).bind λr2=>
 K r2))
def WJ:=λa=>qQ a some
def dab:Spec:=Z6.sp WJ
noncomputable def Naj:Env:=eE [] (Ra [(158,faa),(120,VJ)]) qN
theorem eab:OK (2) 119 (Z6.sp WJ):=
 fO (env:=Naj) (za (cc gaa (cc tU cn))) (fn:=Tryz.f119) (mc:=@qQ) (by intros;simp only[WJ,qQ,nn])
def yad:FS (ga) (ByteArray)where
 sk:=⟨(.cons (.agg La) .nil),[],0⟩
 a:=λu=>(q3 u.1.1)
 o:=λZ a r K=>kv K (.str) [] 0 r ()
def C2{X:Type}(a:ga)(K:ByteArray->Option X):Option X:=
 cond a.1
 (K (str [110,111,110,101]))
 (cond (decide (a.2.1=(0:Int)))
 ((WJ a.2.2).bind λr1=>
 K r1)
 (cond (decide (a.2.1=(1:Int)))
 (K (str [97,108,108]))
 ((Tz (a.2.2,10)).bind λr2=>
 ask (decide (Md r2+Md (str [32,109,111,100,32])<=9223372036854775807)) ((Tz (a.2.1,10)).bind λr3=>
 ask (decide (Md (r2++(str [32,109,111,100,32]))+Md r3<=9223372036854775807)) (K ((r2++(str [32,109,111,100,32]))++r3))))))
def BM:=λa=>C2 a some
def zah:Spec:=yad.sp BM
noncomputable def vao:Env:=eE [] (Ra [(119,dab),(120,VJ)]) qN
theorem Aah:OK (3) 67 (yad.sp BM):=
 fO (env:=vao) (za (cc eab (cc tU cn))) (fn:=Tryz.f67) (mc:=@C2) (by intros;simp only[BM,C2,nn]) (Ca:=[1])
def kae:FS (Ba×Ga) (ByteArray)where
 sk:=⟨(cL [(.agg Va),(.agg Mb)]),[],0⟩
 a:=λu=>((q8 u.1.1),u.1.2.1.1,(u.1.2.1.2.1,u.1.2.1.2.2.1))
 o:=λZ a r K=>kv K (.str) [] 0 r ()
abbrev zP:LD ((List ga)×Int×(Ba×Ga)) (Int×ByteArray) (ByteArray)where
 sk:=⟨[(2,.loc 0 0),(3,.loc 1 0),(5,.p 0 0),(14,.v (.lit Ma)),(15,.i),(16,.i)],[Va,Mb],[.Un (.all 1),.Fq],0,0⟩
 p:=λu=>(u.1.2.1,u.1.2.2.1,(q8 u.2.1.1),(q3 u.2.1.2.1))
 t:=λu=>(u.1.t3.1,u.t3.1)
 n:=λp t=>(((),p.1,p.2.1,t.1,()),((r7 p.2.2.1 (p.2.2.1.t7,())),(p.t3.1,p.t4.1,p.t5,()),()),(),t.2,())
 st:=λY p t ki ke=>cond (decide (t.1<p.2.1))
  (ask (V.ua t.1 (fa p.1)) (ask (V.ua t.1 (fa p.2.2.1.2.2.2.2.2.1)) (ask (decide (Md (gx p.2.2.1.2.2.2.2.2.1 (ia t.1) ud).1+Md (str [32,105,115,32])<=9223372036854775807)) ((BM (gx p.1 (ia t.1) Aa)).bind λr1=>
  ask (decide (Md ((gx p.2.2.1.2.2.2.2.2.1 (ia t.1) ud).1++(str [32,105,115,32]))+Md r1<=9223372036854775807)) (ask (decide (Md (((gx p.2.2.1.2.2.2.2.2.1 (ia t.1) ud).1++(str [32,105,115,32]))++r1)+Md (str [10])<=9223372036854775807)) ((CM (((((gx p.2.2.1.2.2.2.2.2.1 (ia t.1) ud).1++(str [32,105,115,32]))++r1)++(str [10])),t.2)).bind λr2=>
  ki ((Ka (t.1+(1:Int))),r2.2)))))))
  (ke (t.2))
 o:=λZ p e K=>so K (.exit 0) ⟨[(2,.loc 0 0),(3,.loc 1 0),(5,.p 0 0)],[Va,Mb],[.Un (.all 1),.Fq],0,0⟩ (((),()),((r7 p.2.2.1 (p.2.2.1.t7,())),(p.t3.1,p.t4.1,p.t5,()),()),(),e,())
 ve:=⟨[2,3,5,14,15,16],[],[],[]⟩
 pe:=[(.exit 0,⟨[2,3,5],[],[],[]⟩)]
abbrev fJ:LD ((List ga)×Int×Ba) (Int×ByteArray) (ByteArray)where
 sk:=⟨[(2,.loc 0 0),(5,.p 0 0),(35,.v (.lit Ma)),(36,.i),(37,.i)],[Va],[.Un (.all 1),.Fq],0,0⟩
 p:=λu=>(u.1.2.1,u.1.2.2.1,u.2.1.1.1,(q7 u.2.1.1.2))
 t:=λu=>(u.1.t3.1,u.t3.1)
 n:=λp t=>(((),p.1,p.2.1,t.1,()),((r7 p.2.2 (p.t9,())),()),(),t.2,())
 st:=λY p t ki ke=>cond (decide (t.1<p.2.1))
  (ask (V.ua t.1 (fa p.1)) (ask (V.ua t.1 (fa p.2.2.2.2.2.2.2.2.1)) (ask (decide (Md (gx p.2.2.2.2.2.2.2.2.1 (ia t.1) Ob).1+Md (str [91,93,32,105,115,32])<=9223372036854775807)) ((BM (gx p.1 (ia t.1) Aa)).bind λr1=>
  ask (decide (Md ((gx p.2.2.2.2.2.2.2.2.1 (ia t.1) Ob).1++(str [91,93,32,105,115,32]))+Md r1<=9223372036854775807)) (ask (decide (Md (((gx p.2.2.2.2.2.2.2.2.1 (ia t.1) Ob).1++(str [91,93,32,105,115,32]))++r1)+Md (str [10])<=9223372036854775807)) ((CM (((((gx p.2.2.2.2.2.2.2.2.1 (ia t.1) Ob).1++(str [91,93,32,105,115,32]))++r1)++(str [10])),t.2)).bind λr2=>
  ki ((Ka (t.1+(1:Int))),r2.2)))))))
  (ke (t.2))
 o:=λZ p e K=>so K (.exit 2) ⟨[(5,.p 0 0)],[],[.Un (.all 1),.Fq],0,0⟩ (((),()),(),(),e,())
 ve:=⟨[2,5,35,36,37],[],[],[]⟩
 pe:=[(.exit 2,⟨[5],[],[],[]⟩)]
def M4{X:Type}(a:Ba×Ga)(K:ByteArray->Option X):Option X:=
 cond (!a.2.1)
 (K (str [98,111,116,116,111,109,10]))
 ((Ua (zP.m (a.2.2.1,(nt (fa a.2.2.1)),a)) (0,ByteArray.empty)).bind λe1=>
 (Ua (fJ.m (a.2.2.2,(nt (fa a.2.2.2)),a.1)) (0,e1)).bind λe2=>
 (xad e2).bind λr3=>
 K r3)
def TT:=λa=>M4 a some
def Aai:Spec:=kae.sp TT
noncomputable def L4:Env:=eE [] (Ra [(67,zah),(66,D2),(68,Z1)]) (qL 5 zP.q (qL 10 fJ.q qN))
theorem ZW:LL C L4 [2,3,7,9] Tryz.f30 151:=λhc=>
 lO hc zP
theorem AP:LL C L4 [2,3,7,9] Tryz.f30 303:=λhc=>
 lO hc fJ
theorem Bai:OK (4) 30 (kae.sp TT):=
 fO (env:=L4) (za (cc Aah (cc Bah (cc yah cn)))) (fn:=Tryz.f30) (mc:=@M4) (by intros;simp only[TT,M4,nn]) (Ca:=[2,3,7,9]) (hl:=λhc=>(Vi (Ta (ZW hc) (Ta (AP hc) fc))))
def yae:FS (Ba×Ga×Int) (ga)where
 sk:=⟨(cL [(.agg Va),(.agg Mb),.i]),[],0⟩
 a:=λu=>((q8 u.1.1),(q3 u.1.2.1),u.1.2.2.1)
 o:=λZ a r K=>kv K (.agg La) [] 0 (r.1,r.2.1,r.2.2,()) ()
def B6{X:Type}(a:Ba×Ga×Int)(K:ga->Option X):Option X:=
 (SD (a.1,a.2.1)).bind λr1=>
 (sg.m (a.2.2,a.1,a.2.1,r1.1,r1.2)).bind λr2=>
 K r2.1
def lU:=λa=>B6 a some
def raj:Spec:=yae.sp lU
noncomputable def Qao:Env:=eE [] (Ra [(46,Q3),(47,nv)]) qN
theorem saj:OK (166020696663385964545) 13 (yae.sp lU):=
 fO (env:=Qao) (za (cc R3 (cc pP cn))) (fn:=Tryz.f13) (mc:=@B6) (by intros;simp only[lU,B6,nn]) (Ca:=[3,4,6,1000011])
def qae:FS (Y1) (Bool)where
 sk:=⟨(cL [(.agg Va),(.lit Rc)]),[],0⟩
 a:=λu=>((q8 u.1.1),u.1.2.1)
 o:=λZ a r K=>kv K (.bool) [] 0 r ()
abbrev Vp:LD ((List Ga)×Int×(List Int)×Int×Int×Kd×Ba) (Int) ((Unit) ⊕ (Unit))where
 sk:=⟨[(1,.v (.lit Rc)),(2,.loc 0 0),(6,.i),(25,.v (.lit .i)),(26,.i),(27,.i),(36,.v (.agg Ag)),(37,.i)],[Va],[],0,0⟩
 p:=λu=>(r5 u.1 ((u.1.t5.1.1,u.1.t5.1.2.1),u.2.1.1.1,(q7 u.2.1.1.2)))
 t:=λu=>u.1.t6.1
 n:=λp t=>((r5 p ((p.t5.1.1,p.t5.1.2,()),t,())),((r7 p.t6 (p.t13,())),()),())
 st:=λY p t ki ke=>cond (decide (t<(2:Int)))
  (cond (decide (t=(0:Int)))
  (cond (decide ((0:Int)<=p.2.2.2.2.2.1.1))
  (ask (V.ua p.2.1 (fa p.1)) ((vl (p.2.2.2.2.2.2,(gx p.1 (ia p.2.1) Kb),p.2.1,t)).bind λr1=>
  ask (V.ua p.2.2.2.2.2.1.1 (fa p.1)) ((uq (r1,(gx p.1 (ia p.2.2.2.2.2.1.1) Kb))).bind λr2=>
  cond (!r2)
  (ke (.inl ()))
  (ki ((Ka (t+(1:Int))))))))
  (ki ((Ka (t+(1:Int))))))
  (cond (decide (t=(1:Int)))
  (cond (decide ((0:Int)<=p.2.2.2.2.2.1.2))
  (ask (V.ua p.2.1 (fa p.1)) ((vl (p.2.2.2.2.2.2,(gx p.1 (ia p.2.1) Kb),p.2.1,t)).bind λr3=>
  ask (V.ua p.2.2.2.2.2.1.2 (fa p.1)) ((uq (r3,(gx p.1 (ia p.2.2.2.2.2.1.2) Kb))).bind λr4=>
  cond (!r4)
  (ke (.inl ()))
  (ki ((Ka (t+(1:Int))))))))
  (ki ((Ka (t+(1:Int))))))
  (none)))
  (ke (.inr (())))
 o:=λZ p e K=>Sum.elim (λe=>so K (.ret) ⟨[(4,.v .bool)],[],[],0,0⟩ ((false,()),(),())) (λe=>so K (.exit 2) ⟨[(1,.v (.lit Rc)),(2,.loc 0 0),(25,.v (.lit .i)),(26,.i),(27,.i)],[Va],[],0,0⟩ ((p.1,(r3 p.2.2 ())),((r7 p.t6 (p.t13,())),()),())) e
 ve:=⟨[1,2,6,25,26,27,36,37],[],[],[]⟩
 pe:=[(.ret,⟨[4],[],[],[]⟩),(.exit 2,⟨[1,2,25,26,27],[],[],[]⟩)]
abbrev xz:LD ((List Ga)×(List Int)×Int×Ba) (Int) ((Unit) ⊕ (Unit))where
 sk:=⟨[(1,.v (.lit Rc)),(2,.loc 0 0),(25,.v (.lit .i)),(26,.i),(27,.i)],[Va],[],0,0⟩
 p:=λu=>(r3 u.1 (q8 u.2.1.1))
 t:=λu=>u.1.t3.1
 n:=λp t=>((r3 p (t,())),((r7 p.t3 (p.t10,())),()),())
 st:=λY p t ki ke=>cond (decide (t<p.2.2.1))
  (ask (V.ua t (fa p.2.1)) (ask (V.ua (gx p.2.1 (ia t) (0:Int)) (fa p.2.2.2.1)) ((Ua (Vp.m (p.1,(gx p.2.1 (ia t) (0:Int)),p.2.1,p.2.2.1,t,(gx p.2.2.2.1 (ia (gx p.2.1 (ia t) (0:Int))) Pb).2.2.2.2.2.2,p.2.2.2)) 0).bind λe1=>
  Sum.elim (λe2=>ke (.inl ()))
  (λe3=>ki ((Ka (t+(1:Int))))) e1)))
  (ke (.inr (())))
 o:=λZ p e K=>Sum.elim (λe=>so K (.ret) ⟨[(4,.v .bool)],[],[],0,0⟩ ((false,()),(),())) (λe=>so K (.exit 0) ⟨[],[],[],0,0⟩ ((),(),())) e
 ve:=⟨[1,2,25,26,27],[],[],[]⟩
 pe:=[(.ret,⟨[4],[],[],[]⟩),(.exit 0,⟨[],[],[],[]⟩)]
def YT{X:Type}(a:Y1)(K:Bool->Option X):Option X:=
 cond (!(decide ((nt (fa a.2))=(nt (fa a.1.1)))))
 (K false)
 ((kE a.1).bind λr1=>
 ask (V.ua 0 (fa a.2)) ((uq ((true,r1),(gx a.2 0 Kb))).bind λr2=>
 cond (!r2)
 (K false)
 ((xu a.1).bind λr3=>
 (Ua (xz.m (a.2,r3,(nt (fa r3)),a.1)) 0).bind λe4=>
 Sum.elim (λe5=>K false)
 (λe6=>K true) e4)))
def oE:=λa=>YT a some
def R4:Spec:=qae.sp oE
noncomputable def U4:Env:=eE [] (Ra [(32,F4),(25,O4),(58,C3),(16,C5)]) (qL 7 Vp.q (qL 4 xz.q qN))
theorem dX:LL C U4 [2] Tryz.f23 19659:=λhc=>
 lO hc Vp
theorem fX:LL C U4 [2] Tryz.f23 75:=λhc=>
 lO hc xz (hl:=(Vi (Ta (dX hc) fc)))
theorem S4:OK (166020696663385964547) 23 (qae.sp oE):=
 fO (env:=U4) (za (cc I4 (cc P4 (cc D3 (cc D5 cn))))) (fn:=Tryz.f23) (mc:=@YT) (by intros;simp only[oE,YT,nn]) (Ca:=[2]) (hl:=λhc=>(Vi (Ta (fX hc) fc)))
def zae:FS (Unit) (Bool)where
 sk:=⟨.nil,[],0⟩
 a:=λu=>()
 o:=λZ a r K=>kv K (.bool) [] 0 r ()
def M6{X:Type}(a:Unit)(K:Bool->Option X):Option X:=
 let zA:=(([(17,(0,(0,(0,(0,(0,(1,(-1)))))))),(1,(1,(0,(0,(2,(0,(2,(-1)))))))),(4,(2,(0,(1,(0,(1,(3,(-1)))))))),(13,(0,(2,(0,(0,(0,(4,(-1)))))))),(18,(0,(0,(0,(0,(0,(0,(-1))))))))]:List Lb),(0,(3,(0,([],(([((str [120]),(3,0))]:List Ul),([],([(0,0),(0,2)]:List Kd))))))))
 (bB zA).bind λr1=>
 cond (decide ((nt (fa r1))=(5:Int)))
 (ask (V.ua 0 (fa r1)) (cond (gx r1 0 Kb).1
 (ask (V.ua 0 (fa r1)) (cond (decide ((nt (fa (gx r1 0 Kb).2.1))=(1:Int)))
 (ask (V.ua 0 (fa r1)) (ask (V.ua 0 (fa (gx r1 0 Kb).2.1)) (cond (((gx (gx r1 0 Kb).2.1 0 Aa).1==false)&&((decide ((gx (gx r1 0 Kb).2.1 0 Aa).2.1=(2:Int)))&&((decide ((gx (gx r1 0 Kb).2.1 0 Aa).2.2=(0:Int)))&&true)))
 (ask (V.ua 0 (fa r1)) ((TT (zA,(gx r1 0 Kb))).bind λr2=>
 cond (r2.toList==(str [120,32,105,115,32,48,32,109,111,100,32,50,10]).toList)
 (ask (V.ua 0 (fa r1)) ((lU (zA,(gx r1 0 Kb),2)).bind λr3=>
 cond ((r3.1==false)&&((decide (r3.2.1=(2:Int)))&&((decide (r3.2.2=(0:Int)))&&true)))
 ((oE (zA,r1)).bind λr4=>
 K r4)
 (K false)))
 (K false)))
 (K false))))
 (K false)))
 (K false)))
 (K false)
def OM:=λa=>M6 a some
def Daj:Spec:=zae.sp OM
noncomputable def Rao:Env:=eE [] (Ra [(45,cai),(21,W4),(30,Aai),(13,raj),(23,R4)]) qN
theorem Eaj:OK (166020696663385964548) 12 (zae.sp OM):=
 fO (env:=Rao) (za (cc dai (cc X4 (cc Bai (cc saj (cc S4 cn)))))) (fn:=Tryz.f12) (mc:=@M6) (by intros;simp only[OM,M6,nn])
def Gad:FS (Ba×Int) ((List Bool))where
 sk:=⟨(cL [(.agg Va),.i]),[],0⟩
 a:=λu=>((q8 u.1.1),u.1.2.1)
 o:=λZ a r K=>kv K (.lit .bool) [] 0 r ()
abbrev Jl:LD (Int×Kd×Ba) (Nat×Nat×Int×(List Bool)×(List Int)) (Nat×Nat×(List Bool)×(List Int))where
 sk:=⟨[(1,.i),(2,.loc 0 0),(5,.v (.all 0)),(6,.v (.sl 1)),(39,.v (.agg Ag)),(40,.i)],[Va],[.cells .bool,.cells .i],0,0⟩
 p:=λu=>(u.1.1,(u.1.t3.1.1,u.1.t3.1.2.1),u.2.1.1.1,(q7 u.2.1.1.2))
 t:=λu=>(u.1.2.2.1.1,u.1.2.2.1.2,u.1.t4.1,u.2.2.1,u.t3.1)
 n:=λp t=>((p.1,(),(t.1,t.2.1),(p.2.1.1,p.2.1.2,()),t.2.2.1,()),((r7 p.2.2 (p.t9,())),()),t.t3.1,t.t4,())
 st:=λY p t ki ke=>let zB:=Xk t.1 t.2.1 t.2.2.2.2
  let zC:=fa t.2.2.2.1
  let zD:=([p.2.1.1]:List Int)
  let zE:=([p.2.1.2]:List Int)
  let zF:=Ka (t.2.2.1+(1:Int))
  let zA:=(t.1,t.2.1,zF,t.2.2.2.1,t.2.2.2.2)
  cond (decide (t.2.2.1<(2:Int)))
  (cond (decide (t.2.2.1=(0:Int)))
  (cond (decide ((0:Int)<=p.2.1.1))
  (cond (!(decide (p.2.1.1=p.1)))
  (ask (V.ua p.2.1.1 zC) (cond (!(gx t.2.2.2.1 (ia p.2.1.1) false))
  (ask (V.ua p.2.1.1 zC) (ask (decide ((t.2.1+(fa zD)) * 8<=70368744177664)&&decide ((t.2.1+(fa zD))<9223372036854775808)) (ki (0,(fa (zB++zD)),zF,(Wb t.2.2.2.1 (ia p.2.1.1) true),(zB++zD)))))
  (ki zA)))
  (ki zA))
  (ki zA))
  (cond (decide (t.2.2.1=(1:Int)))
  (cond (decide ((0:Int)<=p.2.1.2))
  (cond (!(decide (p.2.1.2=p.1)))
  (ask (V.ua p.2.1.2 zC) (cond (!(gx t.2.2.2.1 (ia p.2.1.2) false))
  (ask (V.ua p.2.1.2 zC) (ask (decide ((t.2.1+(fa zE)) * 8<=70368744177664)&&decide ((t.2.1+(fa zE))<9223372036854775808)) (ki (0,(fa (zB++zE)),zF,(Wb t.2.2.2.1 (ia p.2.1.2) true),(zB++zE)))))
  (ki zA)))
  (ki zA))
  (ki zA))
  (none)))
  (ke ((t.1,t.2.1,t.2.2.2.1,t.2.2.2.2)))
 o:=λZ p e K=>so K (.exit 2) ⟨[(1,.i),(2,.loc 0 0),(5,.v (.all 0)),(6,.v (.sl 1))],[Va],[.cells .bool,.cells .i],0,0⟩ ((p.1,(),(e.1,e.2.1),()),((r7 p.2.2 (p.t9,())),()),e.2.2.1,e.t3,())
 ve:=⟨[1,2,5,6,39,40],[(6,(.cut (.int .i64)))],[],[]⟩
 pe:=[(.exit 2,⟨[1,2,5,6],[],[],[]⟩)]
abbrev rz:LD (Int×Ba) (Nat×Nat×(List Bool)×(List Int)) ((List Bool))where
 sk:=⟨[(1,.i),(2,.loc 0 0),(5,.v (.all 0)),(6,.v (.sl 1))],[Va],[.cells .bool,.cells .i],0,0⟩
 p:=λu=>(u.1.1,u.2.1.1.1,(q7 u.2.1.1.2))
 t:=λu=>(u.1.2.2.1.1,u.1.2.2.1.2,u.2.2.1,u.t3.1)
 n:=λp t=>((p.1,(),(t.1,t.2.1),()),((r7 p.2 (p.t8,())),()),t.2.2.1,t.t3,())
 st:=λY p t ki ke=>cond (decide ((0:Int)<(nt t.2.1)))
  (ask (V.ua 0 t.2.1) (ask (decide (0<=(1:Int))&&decide ((1:Int)<=(nt t.2.1))&&decide ((nt t.2.1)<=(nt t.2.1))) (ask (V.ua (gx t.2.2.2 (pF t.1 0) (0:Int)) (fa p.2.1)) ((Ua (Jl.m (p.1,(gx p.2.1 (ia (gx t.2.2.2 (pF t.1 0) (0:Int))) Pb).2.2.2.2.2.2,p.2)) ((pF t.1 1),(ia (nt t.2.1)-1),0,t.2.2.1,t.2.2.2)).bind λe1=>
  ki (e1.1,e1.2.1,e1.2.2.1,e1.2.2.2)))))
  (ke (t.2.2.1))
 o:=λZ p e K=>so K (.exit 0) ⟨[(5,.v (.all 0))],[],[.cells .bool],0,0⟩ (((),()),(),e,())
 ve:=⟨[1,2,5,6],[(6,(.cut (.int .i64)))],[],[]⟩
 pe:=[(.exit 0,⟨[5],[],[],[]⟩)]
def lT{X:Type}(a:Ba×Int)(K:(List Bool)->Option X):Option X:=
 let zA:=nt (fa a.1.1)
 let zB:=fb (ia zA) (false:Bool)
 ask (decide (0<=zA)&&decide (zA<=zA)&&decide (1 * zA<=70368744177664)&&decide (zA<9223372036854775808)) (cond (decide (zA=(0:Int)))
 (K zB)
 (cond (decide (a.2=(0:Int)))
 (K zB)
 (ask (V.ua 0 (fa zB)) ((Ua (rz.m (a.2,a.1)) (0,(fa ([0]:List Int)),(Wb zB 0 true),([0]:List Int))).bind λe1=>
 K e1))))
def ED:=λa=>lT a some
def X2:Spec:=Gad.sp ED
noncomputable def y3:Env:=eE [] (Ra []) (qL 10 Jl.q (qL 6 rz.q qN))
theorem kP:LL C y3 [2] Tryz.f59 40223:=λhc=>
 lO hc Jl
theorem tW:LL C y3 [2] Tryz.f59 287:=λhc=>
 lO hc rz (hl:=(Vi (Ta (kP hc) fc)))
theorem Z2:OK (1) 59 (Gad.sp ED):=
 fO (env:=y3) (za cn) (fn:=Tryz.f59) (mc:=@lT) (by intros;simp only[ED,lT,nn]) (Ca:=[2]) (sh:=(.lit .bool)) (fz:=true) (hl:=λhc=>(Vi (Ta (tW hc) fc)))
def Fad:FS (Ba) ((List Int))where
 sk:=⟨(.cons (.agg Va) .nil),[],0⟩
 a:=λu=>(q8 u.1.1)
 o:=λZ a r K=>kv K (.lit .i) [] 0 r ()
abbrev Pp:LD (Ba) ((List Bool)×(List Int)×(List Int)×(List Int)) ((List Int))where
 sk:=⟨[(1,.loc 0 0),(3,.v (.all 0)),(4,.v (.all 1)),(5,.v (.all 2)),(6,.v (.all 3))],[Va],[.cells .bool,.cells .i,.cells .i,.cells .i],0,0⟩
 p:=λu=>(q8 u.2.1.1)
 t:=λu=>(r3 u.2.2 u.t5.1)
 n:=λp t=>(((),(),(),(),()),((r7 p (p.t7,())),()),(r3 t (t.t3,())))
 st:=λY p t ki ke=>let zD:=fa t.2.2.1
  let zF:=Ka ((nt zD)-(1:Int))
  let zA:=gx t.2.2.1 (ia zF) (0:Int)
  let zC:=gx p.1 (ia zA) Pb
  let zE:=V.ua zA (fa t.2.1)
  let zG:=gx t.2.1 (ia zA) (0:Int)
  let zB:=Wb t.2.1 (ia zA) (Ka (zG+(1:Int)))
  let zH:=(t.1,zB,t.2.2.1,t.2.2.2)
  let zI:=([zC.2.2.2.2.2.2.1]:List Int)
  let zJ:=([zC.2.2.2.2.2.2.2]:List Int)
  let zK:=(fa t.2.2.2)+(fa ([zA]:List Int))
  let zL:=fa t.1
  cond (decide ((0:Int)<(nt zD)))
  (ask (V.ua zF zD) (ask zE (cond (decide (zG=(2:Int)))
  (ask (decide (zK * 8<=70368744177664)&&decide (zK<9223372036854775808)) (ask (decide (0<=(0:Int))&&decide ((0:Int)<=zF)&&decide (zF<=(nt zD))) (ki (t.1,t.2.1,(List.take (ia zF-0) t.2.2.1),(t.2.2.2++([zA]:List Int))))))
  (ask zE (ask (V.ua zA (fa p.1)) (cond (decide (zG=(0:Int)))
  (ask zE (ask zE (cond (decide ((0:Int)<=zC.2.2.2.2.2.2.1))
  (ask (V.ua zC.2.2.2.2.2.2.1 zL) (cond (!(gx t.1 (ia zC.2.2.2.2.2.2.1) false))
  (ask (V.ua zC.2.2.2.2.2.2.1 zL) (ask (decide ((zD+(fa zI)) * 8<=70368744177664)&&decide ((zD+(fa zI))<9223372036854775808)) (ki ((Wb t.1 (ia zC.2.2.2.2.2.2.1) true),zB,(t.2.2.1++zI),t.2.2.2))))
  (ki zH)))
  (ki zH))))
  (cond (decide (zG=(1:Int)))
  (ask zE (ask zE (cond (decide ((0:Int)<=zC.2.2.2.2.2.2.2))
  (ask (V.ua zC.2.2.2.2.2.2.2 zL) (cond (!(gx t.1 (ia zC.2.2.2.2.2.2.2) false))
  (ask (V.ua zC.2.2.2.2.2.2.2 zL) (ask (decide ((zD+(fa zJ)) * 8<=70368744177664)&&decide ((zD+(fa zJ))<9223372036854775808)) (ki ((Wb t.1 (ia zC.2.2.2.2.2.2.2) true),zB,(t.2.2.1++zJ),t.2.2.2))))
  (ki zH)))
  (ki zH))))
  (none))))))))
  (ke (t.2.2.2))
 o:=λZ p e K=>so K (.exit 0) ⟨[(6,.v (.all 0))],[],[.cells .i],0,0⟩ (((),()),(),e,())
 ve:=⟨[1,3,4,5,6],[(5,(.own (.int .i64))),(6,(.own (.int .i64)))],[],[]⟩
 pe:=[(.exit 0,⟨[6],[],[],[]⟩)]
abbrev ax:LD ((List Int)) (Int×(List Int)) ((List Int))where
 sk:=⟨[(6,.v (.all 0)),(9,.v (.all 1)),(10,.i)],[],[.cells .i,.cells .i],0,0⟩
 p:=λu=>u.2.2.1
 t:=λu=>(u.1.2.2.1,u.t3.1)
 n:=λp t=>(((),(),t.1,()),(),p,t.2,())
 st:=λY p t ki ke=>cond (decide ((0:Int)<=t.1))
  (ask (V.ua t.1 (fa p)) (ask (decide (((fa t.2)+(fa ([(gx p (ia t.1) (0:Int))]:List Int))) * 8<=70368744177664)&&decide (((fa t.2)+(fa ([(gx p (ia t.1) (0:Int))]:List Int)))<9223372036854775808)) (ki ((Ka (t.1-(1:Int))),(t.2++([(gx p (ia t.1) (0:Int))]:List Int))))))
  (ke (t.2))
 o:=λZ p e K=>so K (.exit 2) ⟨[(9,.v (.all 0))],[],[.cells .i],0,0⟩ (((),()),(),e,())
 ve:=⟨[6,9,10],[(9,(.own (.int .i64)))],[],[]⟩
 pe:=[(.exit 2,⟨[9],[],[],[]⟩)]
def jT{X:Type}(a:Ba)(K:(List Int)->Option X):Option X:=
 let zA:=nt (fa a.1)
 let zB:=fb (ia zA) (false:Bool)
 cond (decide (zA=(0:Int)))
 (K [])
 (ask (decide (0<=zA)&&decide (zA<=zA)&&decide (1 * zA<=70368744177664)&&decide (zA<9223372036854775808)) (ask (decide (0<=zA)&&decide (zA<=zA)&&decide (8 * zA<=70368744177664)&&decide (zA<9223372036854775808)) (ask (V.ua 0 (fa zB)) ((Ua (Pp.m a) ((Wb zB 0 true),(fb (ia zA) (0:Int)),([0]:List Int),[])).bind λe1=>
 (Ua (ax.m e1) ((Ka ((nt (fa e1))-(1:Int))),[])).bind λe2=>
 K e2))))
def mH:=λa=>jT a some
def Lah:Spec:=Fad.sp mH
noncomputable def W2:Env:=eE [] (Ra []) (qL 8 Pp.q (qL 20 ax.q qN))
theorem sW:LL C W2 [1] Tryz.f60 1151:=λhc=>
 lO hc Pp
theorem jP:LL C W2 [1] Tryz.f60 9727:=λhc=>
 lO hc ax
theorem Mah:OK (1) 60 (Fad.sp mH):=
 fO (env:=W2) (za cn) (fn:=Tryz.f60) (mc:=@jT) (by intros;simp only[mH,jT,nn]) (Ca:=[1]) (sh:=(.lit (.int .i64))) (fz:=true) (hl:=λhc=>(Vi (Ta (sW hc) (Ta (jP hc) fc))))
def iae:FS (Ba) (Y3)where
 sk:=⟨(.cons (.agg Va) .nil),[],0⟩
 a:=λu=>(q8 u.1.1)
 o:=λZ a r K=>kv K (.agg Mb) [] 0 (true,r.1,r.2,()) ()
abbrev jE:LD (Ba×Bool×Bool) (Int×(List ga)) ((List ga))where
 sk:=⟨[(1,.loc 0 0),(2,.loc 1 0),(3,.loc 2 0),(4,.i)],[Va,(cL [.bool,.Xa,.Xa]),(cL [.bool,(.all 0),.Xa])],[.cells Ma],0,0⟩
 p:=λu=>((q8 u.2.1.1),u.2.1.2.1.1,u.2.1.2.2.1.1)
 t:=λu=>(u.1.1,u.2.2.1)
 n:=λp t=>((t.1,()),((r7 p.1 (p.1.t7,())),(p.2.1,(),(),()),(p.2.2,(),(),()),()),t.2,())
 st:=λY p t ki ke=>cond (decide (t.1<(nt (fa p.1.2.2.2.2.2.1))))
  (ask (V.ua t.1 (fa p.1.2.2.2.2.2.1)) ((Yi (0,(gx p.1.2.2.2.2.2.1 (ia t.1) ud).2.2)).bind λr1=>
  ask (decide (((fa t.2)+(fa ([r1]:List ga))) * 24<=70368744177664)&&decide (((fa t.2)+(fa ([r1]:List ga)))<9223372036854775808)) (ki ((Ka (t.1+(1:Int))),(t.2++([r1]:List ga))))))
  (ke (t.2))
 o:=λZ p e K=>so K (.exit 0) ⟨[(1,.loc 0 0),(2,.loc 1 0),(3,.loc 2 0)],[Va,(cL [.bool,.Xa,.Xa]),(cL [.bool,(.all 0),.Xa])],[.cells Ma],0,0⟩ ((),((r7 p.1 (p.1.t7,())),(p.2.1,(),(),()),(p.2.2,(),(),()),()),e,())
 ve:=⟨[1,2,3,4],[],[(2,[.any,(.own Ma),.any])],[]⟩
 pe:=[(.exit 0,⟨[1,2,3],[],[],[]⟩)]
abbrev iE:LD (Ba×Bool×Bool×(List ga)) (Int×(List ga)) ((List ga))where
 sk:=⟨[(1,.loc 0 0),(2,.loc 1 0),(3,.loc 2 0),(5,.i)],[Va,(cL [.bool,.Xa,.Xa]),(cL [.bool,(.all 0),(.all 1)])],[.cells Ma,.cells Ma],0,0⟩
 p:=λu=>((q8 u.2.1.1),u.2.1.2.1.1,u.2.1.2.2.1.1,u.2.2.1)
 t:=λu=>(u.1.1,u.t3.1)
 n:=λp t=>((t.1,()),((r7 p.1 (p.1.t7,())),(p.2.1,(),(),()),(p.2.2.1,(),(),()),()),p.t3,t.2,())
 st:=λY p t ki ke=>cond (decide (t.1<(nt (fa p.1.2.2.2.2.2.2.1))))
  (ask (V.ua t.1 (fa p.1.2.2.2.2.2.2.1)) ((Yi (0,(gx p.1.2.2.2.2.2.2.1 (ia t.1) Ob).2.2.2)).bind λr1=>
  ask (decide (((fa t.2)+(fa ([r1]:List ga))) * 24<=70368744177664)&&decide (((fa t.2)+(fa ([r1]:List ga)))<9223372036854775808)) (ki ((Ka (t.1+(1:Int))),(t.2++([r1]:List ga))))))
  (ke (t.2))
 o:=λZ p e K=>so K (.exit 2) ⟨[(2,.loc 0 0),(3,.loc 1 0)],[(cL [.bool,.Xa,.Xa]),(cL [.bool,(.all 0),(.all 1)])],[.cells Ma,.cells Ma],0,0⟩ ((),((p.2.1,(),(),()),(p.2.2.1,(),(),()),()),p.t3,e,())
 ve:=⟨[1,2,3,5],[],[(2,[.any,.any,(.own Ma)])],[]⟩
 pe:=[(.exit 2,⟨[2,3],[],[],[]⟩)]
def PT{X:Type}(a:Ba)(K:Y3->Option X):Option X:=
 (Ua (jE.m (a,false,true)) (0,[])).bind λe1=>
 (Ua (iE.m (a,false,true,e1)) (0,[])).bind λe2=>
 K (e1,e2)
def gE:=λa=>PT a some
def C4:Spec:=iae.sp gE
noncomputable def E4:Env:=eE [] (Ra [(71,kz)]) (qL 3 jE.q (qL 7 iE.q qN))
theorem WW:LL C E4 [1,2,3] Tryz.f33 75:=λhc=>
 lO hc jE
theorem VW:LL C E4 [1,2,3] Tryz.f33 151:=λhc=>
 lO hc iE
theorem D4:OK (4) 33 (iae.sp gE):=
 fO (env:=E4) (za (cc lz cn)) (fn:=Tryz.f33) (mc:=@PT) (by intros;simp only[gE,PT,nn]) (Ca:=[1,2,3]) (sh:=(.agg [.any,(.lit Ma),(.lit Ma)])) (fz:=true) (hl:=λhc=>(Vi (Ta (WW hc) (Ta (VW hc) fc))))
def B7:FS (Int×Int) (ga)where
 sk:=⟨(cL [(.int .u64),.i]),[],0⟩
 a:=λu=>(u.1.1,u.1.2.1)
 o:=λZ a r K=>kv K (.agg La) [] 0 (r.1,r.2.1,r.2.2,()) ()
def gK{X:Type}(a:Int×Int)(K:ga->Option X):Option X:=
 (Kc a.2).bind λr1=>
 (Ln (a.1,r1,(decide (a.2<(0:Int))))).bind λr2=>
 K r2
def Yj:=λa=>gK a some
def Xx:Spec:=B7.sp Yj
noncomputable def Vaj:Env:=eE [] (Ra [(111,gk),(123,XB)]) qN
theorem Yx:OK (3) 109 (B7.sp Yj):=
 fO (env:=Vaj) (za (cc ik (cc bC cn))) (fn:=Tryz.f109) (mc:=@gK) (by intros;simp only[Yj,gK,nn]) (Ca:=[4])
def G6:FS (ga) (ga)where
 sk:=⟨(.cons (.agg La) .nil),[],0⟩
 a:=λu=>(q3 u.1.1)
 o:=λZ a r K=>kv K (.agg La) [] 0 (r.1,r.2.1,r.2.2,()) ()
def IJ{X:Type}(a:ga)(K:ga->Option X):Option X:=
 cond a.1
 (K (true,(0,0)))
 ((Kc a.2.1).bind λr1=>
 (Yj (r1,(Ka ((0:Int)-a.2.2)))).bind λr2=>
 K r2)
def Av:=λa=>IJ a some
def mU:Spec:=G6.sp Av
noncomputable def xaj:Env:=eE [] (Ra [(105,zj),(111,gk),(109,Xx)]) qN
theorem nU:OK (4) 135 (G6.sp Av):=
 fO (env:=xaj) (za (cc Aj (cc ik (cc Yx cn)))) (fn:=Tryz.f135) (mc:=@IJ) (by intros;simp only[Av,IJ,nn]) (Ca:=[1,2])
def y7:FS (Int×Int) (Int)where
 sk:=⟨Rk,[],0⟩
 a:=λu=>(u.1.1,u.1.2.1)
 o:=λZ a r K=>kv K (.int .u64) [] 0 r ()
abbrev eK:LD (Unit) (Int×Int) (Int)where
 sk:=⟨[(0,.v (.int .u64)),(1,.v (.int .u64))],[],[],0,0⟩
 p:=λu=>()
 t:=λu=>(u.1.1,u.1.2.1)
 n:=λp t=>((t.1,t.2,()),(),())
 st:=λY p t ki ke=>cond (!(decide (t.2=(0:Int))))
  (cond (decide (t.2=(0:Int)))
  (none)
  (ki (t.2,(zb t.1 t.2))))
  (ke (t.1))
 o:=λZ p e K=>so K (.exit 0) ⟨[(0,.v (.int .u64))],[],[],0,0⟩ ((e,()),(),())
 ve:=⟨[0,1],[],[],[]⟩
 pe:=[(.exit 0,⟨[0],[],[],[]⟩)]
def fK{X:Type}(a:Int×Int)(K:Int->Option X):Option X:=
 (Ua (eK.m ()) (a.1,a.2)).bind λe1=>
 K e1
def wg:=λa=>fK a some
def Mt:Spec:=y7.sp wg
noncomputable def z7:Env:=eE [] (Ra []) (qL 1 eK.q qN)
theorem zQ:LL C z7 [] Tryz.f110 17:=λhc=>
 lO hc eK
theorem Nt:OK (1) 110 (y7.sp wg):=
 fO (env:=z7) (za cn) (fn:=Tryz.f110) (mc:=@fK) (by intros;simp only[wg,fK,nn]) (hl:=λhc=>(Vi (Ta (zQ hc) fc)))
def Jad:FS (ga×ga) (ga)where
 sk:=⟨(cL [(.agg La),(.agg La)]),[],0⟩
 a:=λu=>((q3 u.1.1),u.1.2.1.1,(u.1.2.1.2.1,u.1.2.1.2.2.1))
 o:=λZ a r K=>kv K (.agg La) [] 0 (r.1,r.2.1,r.2.2,()) ()
def oT{X:Type}(a:ga×ga)(K:ga->Option X):Option X:=
 cond a.1.1
 (K a.2)
 (cond a.2.1
 (K a.1)
 ((Kc a.1.2.1).bind λr1=>
 (Kc a.2.2.1).bind λr2=>
 (wg (r1,r2)).bind λr3=>
 (Kc (Ka (a.1.2.2-a.2.2.2))).bind λr4=>
 (wg (r3,r4)).bind λr5=>
 (Yj (r5,a.1.2.2)).bind λr6=>
 K r6))
def ux:=λa=>oT a some
def bJ:Spec:=Jad.sp ux
noncomputable def Bao:Env:=eE [] (Ra [(111,gk),(110,Mt),(109,Xx)]) qN
theorem cJ:OK (4) 56 (Jad.sp ux):=
 fO (env:=Bao) (za (cc ik (cc Nt (cc Yx cn)))) (fn:=Tryz.f56) (mc:=@oT) (by intros;simp only[ux,oT,nn]) (Ca:=[2,3,4])
def F6:FS (ga) (ga)where
 sk:=⟨(.cons (.agg La) .nil),[],0⟩
 a:=λu=>(q3 u.1.1)
 o:=λZ a r K=>kv K (.agg La) [] 0 (r.1,r.2.1,r.2.2,()) ()
def HE{X:Type}(a:ga)(K:ga->Option X):Option X:=
 cond a.1
 (K (true,(0,0)))
 (cond (decide (a.2.1=(0:Int)))
 ((Yi (0,(if(Ka ((0:Int)-a.2.2))>a.2.2 then(Ka ((0:Int)-a.2.2))else a.2.2))).bind λr1=>
 K r1)
 ((Av a).bind λr2=>
 (ux (a,r2)).bind λr3=>
 K r3))
def wv:=λa=>HE a some
def Qaa:Spec:=F6.sp wv
noncomputable def waj:Env:=eE [] (Ra [(105,zj),(71,kz),(135,mU),(56,bJ)]) qN
theorem Raa:OK (5) 136 (F6.sp wv):=
 fO (env:=waj) (za (cc Aj (cc lz (cc nU (cc cJ cn))))) (fn:=Tryz.f136) (mc:=@HE) (by intros;simp only[wv,HE,nn]) (Ca:=[1,2])
def E6:FS (ga×ga) (ga)where
 sk:=⟨(cL [(.agg La),(.agg La)]),[],0⟩
 a:=λu=>((q3 u.1.1),u.1.2.1.1,(u.1.2.1.2.1,u.1.2.1.2.2.1))
 o:=λZ a r K=>kv K (.agg La) [] 0 (r.1,r.2.1,r.2.2,()) ()
def HJ{X:Type}(a:ga×ga)(K:ga->Option X):Option X:=
 cond a.1.1
 (K (true,(0,0)))
 (cond a.2.1
 (K (true,(0,0)))
 ((Kc a.1.2.1).bind λr1=>
 (Kc a.2.2.1).bind λr2=>
 (wg (r1,r2)).bind λr3=>
 (Yj (r3,(Ka (a.1.2.2+a.2.2.2)))).bind λr4=>
 K r4))
def Pz:=λa=>HJ a some
def Oaa:Spec:=E6.sp Pz
noncomputable def vaj:Env:=eE [] (Ra [(105,zj),(111,gk),(110,Mt),(109,Xx)]) qN
theorem Paa:OK (4) 137 (E6.sp Pz):=
 fO (env:=vaj) (za (cc Aj (cc ik (cc Nt (cc Yx cn))))) (fn:=Tryz.f137) (mc:=@HJ) (by intros;simp only[Pz,HJ,nn]) (Ca:=[2,3,4])
def D6:FS (ga×ga) (ga)where
 sk:=⟨(cL [(.agg La),(.agg La)]),[],0⟩
 a:=λu=>((q3 u.1.1),u.1.2.1.1,(u.1.2.1.2.1,u.1.2.1.2.2.1))
 o:=λZ a r K=>kv K (.agg La) [] 0 (r.1,r.2.1,r.2.2,()) ()
def GJ{X:Type}(a:ga×ga)(K:ga->Option X):Option X:=
 cond a.1.1
 (K (true,(0,0)))
 (cond a.2.1
 (K (true,(0,0)))
 ((Kc a.1.2.1).bind λr1=>
 (Kc a.2.2.1).bind λr2=>
 (wg (r1,r2)).bind λr3=>
 (Yj (r3,(Ka (a.1.2.2-a.2.2.2)))).bind λr4=>
 K r4))
def Oz:=λa=>GJ a some
def Maa:Spec:=D6.sp Oz
noncomputable def uaj:Env:=eE [] (Ra [(105,zj),(111,gk),(110,Mt),(109,Xx)]) qN
theorem Naa:OK (4) 138 (D6.sp Oz):=
 fO (env:=uaj) (za (cc Aj (cc ik (cc Nt (cc Yx cn))))) (fn:=Tryz.f138) (mc:=@GJ) (by intros;simp only[Oz,GJ,nn]) (Ca:=[2,3,4])
def C6:FS (ga×ga) (ga)where
 sk:=⟨(cL [(.agg La),(.agg La)]),[],0⟩
 a:=λu=>((q3 u.1.1),u.1.2.1.1,(u.1.2.1.2.1,u.1.2.1.2.2.1))
 o:=λZ a r K=>kv K (.agg La) [] 0 (r.1,r.2.1,r.2.2,()) ()
def FJ{X:Type}(a:ga×ga)(K:ga->Option X):Option X:=
 cond a.1.1
 (K (true,(0,0)))
 (cond a.2.1
 (K (true,(0,0)))
 ((Kc a.1.2.1).bind λr1=>
 (Kc a.2.2.1).bind λr2=>
 (Kc a.1.2.1).bind λr3=>
 (Kc a.2.2.2).bind λr4=>
 (Kc a.2.2.1).bind λr5=>
 (Kc a.1.2.2).bind λr6=>
 (wg ((Ia (r3 * r4)),(Ia (r5 * r6)))).bind λr7=>
 (wg ((Ia (r1 * r2)),r7)).bind λr8=>
 (Kc a.1.2.2).bind λr9=>
 (Kc a.2.2.2).bind λEN=>
 (Ln (r8,(Ia (r9 * EN)),(!((decide (a.1.2.2<(0:Int)))==(decide (a.2.2.2<(0:Int))))))).bind λHR=>
 K HR))
def Nz:=λa=>FJ a some
def Kaa:Spec:=C6.sp Nz
noncomputable def taj:Env:=eE [] (Ra [(105,zj),(111,gk),(110,Mt),(123,XB)]) qN
theorem Laa:OK (3) 139 (C6.sp Nz):=
 fO (env:=taj) (za (cc Aj (cc ik (cc Nt (cc bC cn))))) (fn:=Tryz.f139) (mc:=@FJ) (by intros;simp only[Nz,FJ,nn]) (Ca:=[2,3,4])
def I5:FS (Unit) (Unit)where
 sk:=⟨.nil,[],0⟩
 a:=λu=>()
 o:=λZ a r K=>kv K (.agg La) [] 0 (false,(1:Int),(0:Int),()) ()
def MP{X:Type}(a:Unit)(K:Unit->Option X):Option X:=
 K ()
def KP:=λa=>MP a some
def baa:Spec:=I5.sp KP
noncomputable def aaj:Env:=eE [] (Ra []) qN
theorem caa:OK (1) 163 (I5.sp KP):=
 fO (env:=aaj) (za cn) (fn:=Tryz.f163) (mc:=@MP) (by intros;simp only[KP,MP,nn]) (Ca:=[0])
def z6:FS (ga×ga) (ga)where
 sk:=⟨(cL [(.agg La),(.agg La)]),[],0⟩
 a:=λu=>((q3 u.1.1),u.1.2.1.1,(u.1.2.1.2.1,u.1.2.1.2.2.1))
 o:=λZ a r K=>kv K (.agg La) [] 0 (r.1,r.2.1,r.2.2,()) ()
def EJ{X:Type}(a:ga×ga)(K:ga->Option X):Option X:=
 cond a.1.1
 (K (true,(0,0)))
 (cond a.2.1
 (K (true,(0,0)))
 (cond ((a.2.1==false)&&((decide (a.2.2.1=(0:Int)))&&((decide (a.2.2.2=(0:Int)))&&true)))
 (K (true,(0,0)))
 (cond (!(decide (a.2.2.1=(0:Int))))
 (K (false,(1,0)))
 (cond (decide (a.1.2.1=(0:Int)))
 (cond (decide (a.2.2.2=(0:Int)))
 (none)
 (cond (decide (a.2.2.2=(0:Int)))
 (none)
 ((Yi ((Ka (jb a.1.2.1 a.2.2.2)),(Ka (jb a.1.2.2 a.2.2.2)))).bind λr1=>
 K r1)))
 (cond (decide (a.2.2.2=(0:Int)))
 (none)
 (cond (decide ((zb a.1.2.1 a.2.2.2)=(0:Int)))
 (cond (decide (a.2.2.2=(0:Int)))
 (none)
 (cond (decide ((zb a.1.2.2 a.2.2.2)=(0:Int)))
 (cond (decide (a.2.2.2=(0:Int)))
 (none)
 (cond (decide (a.2.2.2=(0:Int)))
 (none)
 ((Yi ((Ka (jb a.1.2.1 a.2.2.2)),(Ka (jb a.1.2.2 a.2.2.2)))).bind λr2=>
 K r2)))
 (K (false,(1,0)))))
 (K (false,(1,0)))))))))
def Mz:=λa=>EJ a some
def Iaa:Spec:=z6.sp Mz
noncomputable def qaj:Env:=eE [] (Ra [(105,zj),(163,baa),(71,kz)]) qN
theorem Jaa:OK (4) 140 (z6.sp Mz):=
 fO (env:=qaj) (za (cc Aj (cc caa (cc lz cn)))) (fn:=Tryz.f140) (mc:=@EJ) (by intros;simp only[Mz,EJ,nn]) (Ca:=[2,3,4,5])
def y6:FS (ga×ga) (ga)where
 sk:=⟨(cL [(.agg La),(.agg La)]),[],0⟩
 a:=λu=>((q3 u.1.1),u.1.2.1.1,(u.1.2.1.2.1,u.1.2.1.2.2.1))
 o:=λZ a r K=>kv K (.agg La) [] 0 (r.1,r.2.1,r.2.2,()) ()
def CJ{X:Type}(a:ga×ga)(K:ga->Option X):Option X:=
 cond a.1.1
 (K (true,(0,0)))
 (cond a.2.1
 (K (true,(0,0)))
 (cond ((a.2.1==false)&&((decide (a.2.2.1=(0:Int)))&&((decide (a.2.2.2=(0:Int)))&&true)))
 (K (true,(0,0)))
 (cond (decide (a.1.2.1=(0:Int)))
 (cond (decide (a.2.2.1=(0:Int)))
 (cond (decide (a.2.2.2=(0:Int)))
 (none)
 ((Yi (0,(zb a.1.2.2 a.2.2.2))).bind λr1=>
 K r1))
 ((Kc a.1.2.1).bind λr2=>
 (Kc a.2.2.1).bind λr3=>
 (Kc a.2.2.2).bind λr4=>
 (wg (r3,r4)).bind λr5=>
 (wg (r2,r5)).bind λr6=>
 (Yj (r6,a.1.2.2)).bind λr7=>
 K r7))
 ((Kc a.1.2.1).bind λr8=>
 (Kc a.2.2.1).bind λr9=>
 (Kc a.2.2.2).bind λEN=>
 (wg (r9,EN)).bind λHR=>
 (wg (r8,HR)).bind λmI=>
 (Yj (mI,a.1.2.2)).bind λRX=>
 K RX))))
def Lz:=λa=>CJ a some
def Gaa:Spec:=y6.sp Lz
noncomputable def paj:Env:=eE [] (Ra [(105,zj),(71,kz),(111,gk),(110,Mt),(109,Xx)]) qN
theorem Haa:OK (4) 141 (y6.sp Lz):=
 fO (env:=paj) (za (cc Aj (cc lz (cc ik (cc Nt (cc Yx cn)))))) (fn:=Tryz.f141) (mc:=@CJ) (by intros;simp only[Lz,CJ,nn]) (Ca:=[2,3,4,5])
def Tac:FS (Y14) (ga)where
 sk:=⟨(cL [(.agg Va),(.agg Mb),(.all 0),(.agg Sc)]),[.cells Ma],0⟩
 a:=λu=>((q8 u.1.1),(q3 u.1.2.1),(q8 u.1.t3.1),u.2.1)
 o:=λZ a r K=>kv K (.agg La) [.cells Ma] 0 (r.1,r.2.1,r.2.2,()) (a.t3,())
def ES{X:Type}(a:Y14)(K:ga->Option X):Option X:=
 let zB:=V.ua a.2.2.1.2.2.1 (fa a.2.2.2)
 let zC:=V.ua a.2.2.1.2.2.2.1 (fa a.2.2.2)
 let zD:=ia a.2.2.1.2.2.1
 let zE:=gx a.2.2.2 zD Aa
 let zF:=gx a.1.2.2.2.2.1 zD Ob
 let zG:=gx a.2.2.2 (ia a.2.2.1.2.2.2.1) Aa
 let zA:=(zE,zG)
 cond (decide (a.2.2.1.1=(1:Int)))
 ((Yi (0,a.2.2.1.2.2.2.2.1)).bind λr1=>
 K r1)
 (cond (decide (a.2.2.1.1=(2:Int)))
 (ask zB ((Av zE).bind λr2=>
 K r2))
 (cond (decide (a.2.2.1.1=(3:Int)))
 (ask zB ((wv zE).bind λr3=>
 K r3))
 (cond (decide (a.2.2.1.1=(4:Int)))
 (ask zB (ask zC ((Pz zA).bind λr4=>
 K r4)))
 (cond (decide (a.2.2.1.1=(5:Int)))
 (ask zB (ask zC ((Oz zA).bind λr5=>
 K r5)))
 (cond (decide (a.2.2.1.1=(6:Int)))
 (ask zB (ask zC ((Nz zA).bind λr6=>
 K r6)))
 (cond (decide (a.2.2.1.1=(7:Int)))
 (ask zB (ask zC ((Mz zA).bind λr7=>
 K r7)))
 (cond (decide (a.2.2.1.1=(8:Int)))
 (ask zB (ask zC ((Lz zA).bind λr8=>
 K r8)))
 (cond (decide (a.2.2.1.1=(11:Int)))
 (ask (V.ua a.2.2.1.2.2.1 (fa a.2.1.2.2)) (K (gx a.2.1.2.2 zD Aa)))
 (cond (decide (a.2.2.1.1=(12:Int)))
 (ask (V.ua a.2.2.1.2.2.1 (fa a.1.2.2.2.2.1)) (cond (decide (zF.2.2.1=zF.2.2.2))
 ((Yi (0,zF.2.2.1)).bind λr9=>
 K r9)
 ((Yi (1,0)).bind λEN=>
 K EN)))
 (ask zB (cond zE.1
 (K (true,(0,0)))
 (ask zC (cond zG.1
 (K (true,(0,0)))
 (ask zB (ask zC ((ux zA).bind λHR=>
 K HR))))))))))))))))
def iH:=λa=>ES a some
def Jag:Spec:=Tac.sp iH
noncomputable def Yan:Env:=eE [] (Ra [(71,kz),(135,mU),(136,Qaa),(137,Oaa),(138,Maa),(139,Kaa),(140,Iaa),(141,Gaa),(56,bJ)]) qN
theorem Kag:OK (6) 95 (Tac.sp iH):=
 fO (env:=Yan) (za (cc lz (cc nU (cc Raa (cc Paa (cc Naa (cc Laa (cc Jaa (cc Haa (cc cJ cn)))))))))) (fn:=Tryz.f95) (mc:=@ES) (by intros;simp only[iH,ES,nn]) (Ca:=[4,5,7,8,9])
def Sad:FS (Ba×Ga) ((List ga))where
 sk:=⟨(cL [(.agg Va),(.agg Mb)]),[],0⟩
 a:=λu=>((q8 u.1.1),u.1.2.1.1,(u.1.2.1.2.1,u.1.2.1.2.2.1))
 o:=λZ a r K=>kv K (.lit Ma) [] 0 r ()
abbrev RD:LD ((Ba×Ga)) (Int×(List ga)) ((List ga))where
 sk:=⟨[(2,.loc 0 0),(3,.loc 1 0),(5,.v (.all 0)),(6,.i)],[Va,Mb],[.cells Ma],0,0⟩
 p:=λu=>((q8 u.2.1.1),(q3 u.2.1.2.1))
 t:=λu=>(u.1.2.1,u.2.2.1)
 n:=λp t=>(((),t.1,()),((r7 p.1 (p.1.t7,())),(p.2.1,p.2.2.1,p.t3,()),()),t.2,())
 st:=λY p t ki ke=>cond (decide (t.1<(nt (fa p.1.1))))
  (ask (V.ua t.1 (fa p.1.1)) (cond (decide ((1:Int)<=(gx p.1.1 (ia t.1) Pb).1))
  (cond (decide ((gx p.1.1 (ia t.1) Pb).1<=(12:Int)))
  ((iH (p.1,p.2,(gx p.1.1 (ia t.1) Pb),t.2)).bind λr1=>
  ask (V.ua (gx p.1.1 (ia t.1) Pb).2.1 (fa t.2)) (ki ((Ka (t.1+(1:Int))),(Wb t.2 (ia (gx p.1.1 (ia t.1) Pb).2.1) r1))))
  (ki ((Ka (t.1+(1:Int))),t.2)))
  (ki ((Ka (t.1+(1:Int))),t.2))))
  (ke (t.2))
 o:=λZ p e K=>so K (.exit 0) ⟨[(5,.v (.all 0))],[],[.cells Ma],0,0⟩ (((),()),(),e,())
 ve:=⟨[2,3,5,6],[],[],[]⟩
 pe:=[(.exit 0,⟨[5],[],[],[]⟩)]
def yT{X:Type}(a:Ba×Ga)(K:(List ga)->Option X):Option X:=
 ask (decide (0<=a.1.2.2.1)&&decide (a.1.2.2.1<=a.1.2.2.1)&&decide (24 * a.1.2.2.1<=70368744177664)&&decide (a.1.2.2.1<9223372036854775808)) ((Ua (RD.m a) (0,(zq 0 (min (fa a.2.2.1) (fa (fb (ia a.1.2.2.1) ((false,(0,0)):ga)))) a.2.2.1 (fb (ia a.1.2.2.1) ((false,(0,0)):ga))))).bind λe1=>
 K e1)
def QD:=λa=>yT a some
def Zah:Spec:=Sad.sp QD
noncomputable def Tad:Env:=eE [] (Ra [(95,Jag)]) (qL 4 RD.q qN)
theorem yW:LL C Tad [2,3,7] Tryz.f48 151:=λhc=>
 lO hc RD
theorem aai:OK (7) 48 (Sad.sp QD):=
 fO (env:=Tad) (za (cc Kag cn)) (fn:=Tryz.f48) (mc:=@yT) (by intros;simp only[QD,yT,nn]) (Ca:=[2,3,7]) (sh:=(.lit Ma)) (fz:=true) (hl:=λhc=>(Vi (Ta (yW hc) fc)))
def E7:FS (Unit) (Unit)where
 sk:=⟨.nil,[],0⟩
 a:=λu=>()
 o:=λZ a r K=>kv K (.agg Ag) [] 0 ((1:Int),(0:Int),()) ()
def HQ{X:Type}(a:Unit)(K:Unit->Option X):Option X:=
 K ()
def GQ:=λa=>HQ a some
def gC:Spec:=E7.sp GQ
noncomputable def Yaj:Env:=eE [] (Ra []) qN
theorem iC:OK (1) 106 (E7.sp GQ):=
 fO (env:=Yaj) (za cn) (fn:=Tryz.f106) (mc:=@HQ) (by intros;simp only[GQ,HQ,nn]) (Ca:=[0])
def Lad:FS (Int) (Kd)where
 sk:=⟨(.cons .i .nil),[],0⟩
 a:=λu=>u.1.1
 o:=λZ a r K=>kv K (.agg Ag) [] 0 (r.1,r.2,()) ()
def qT{X:Type}(a:Int)(K:Kd->Option X):Option X:=
 cond (decide (a=(1:Int)))
 (K ((-128),127))
 (cond (decide (a=(2:Int)))
 (K ((-32768),32767))
 (cond (decide (a=(3:Int)))
 (K ((-2147483648),2147483647))
 (K (1,0))))
def YA:=λa=>qT a some
def I3:Spec:=Lad.sp YA
noncomputable def Dao:Env:=eE [] (Ra [(106,gC)]) qN
theorem J3:OK (2) 54 (Lad.sp YA):=
 fO (env:=Dao) (za (cc iC cn)) (fn:=Tryz.f54) (mc:=@qT) (by intros;simp only[YA,qT,nn]) (Ca:=[2])
def C7:FS (Int×Int) (Kd)where
 sk:=⟨Ag,[],0⟩
 a:=λu=>(u.1.1,u.1.2.1)
 o:=λZ a r K=>kv K (.agg Ag) [] 0 (r.1,r.2,()) ()
def kK{X:Type}(a:Int×Int)(K:Kd->Option X):Option X:=
 cond (decide (a.2<a.1))
 (K (1,0))
 (cond (decide (a.1<=(-4611686018427387904:Int)))
 (cond (decide ((4611686018427387904:Int)<=a.2))
 (K ((-4611686018427387904),4611686018427387904))
 (cond (decide (a.2<=(-4611686018427387904:Int)))
 (K ((-4611686018427387904),(-4611686018427387903)))
 (K ((-4611686018427387904),a.2))))
 (cond (decide ((4611686018427387904:Int)<=a.1))
 (cond (decide ((4611686018427387904:Int)<=a.2))
 (K (4611686018427387903,4611686018427387904))
 (cond (decide (a.2<=(-4611686018427387904:Int)))
 (K (4611686018427387903,(-4611686018427387903)))
 (K (4611686018427387903,a.2))))
 (cond (decide ((4611686018427387904:Int)<=a.2))
 (K (a.1,4611686018427387904))
 (cond (decide (a.2<=(-4611686018427387904:Int)))
 (K (a.1,(-4611686018427387903)))
 (K a)))))
def Mn:=λa=>kK a some
def iK:Spec:=C7.sp Mn
noncomputable def Waj:Env:=eE [] (Ra [(106,gC)]) qN
theorem jK:OK (2) 108 (C7.sp Mn):=
 fO (env:=Waj) (za (cc iC cn)) (fn:=Tryz.f108) (mc:=@kK) (by intros;simp only[Mn,kK,nn]) (Ca:=[4])
def U5:FS (Kd) (Kd)where
 sk:=⟨(.cons (.agg Ag) .nil),[],0⟩
 a:=λu=>(u.1.1.1,u.1.1.2.1)
 o:=λZ a r K=>kv K (.agg Ag) [] 0 (r.1,r.2,()) ()
def sJ{X:Type}(a:Kd)(K:Kd->Option X):Option X:=
 (Mn (a.1,a.2)).bind λr1=>
 K r1
def uv:=λa=>sJ a some
def hU:Spec:=U5.sp uv
noncomputable def haj:Env:=eE [] (Ra [(108,iK)]) qN
theorem iU:OK (3) 150 (U5.sp uv):=
 fO (env:=haj) (za (cc jK cn)) (fn:=Tryz.f150) (mc:=@sJ) (by intros;simp only[uv,sJ,nn]) (Ca:=[1,2])
def G7:FS (Kd) (Bool)where
 sk:=⟨(.cons (.agg Ag) .nil),[],0⟩
 a:=λu=>(u.1.1.1,u.1.1.2.1)
 o:=λZ a r K=>kv K (.bool) [] 0 r ()
def LQ{X:Type}(a:Kd)(K:Bool->Option X):Option X:=
 K (decide (a.2<a.1))
def KQ:=λa=>LQ a some
def xU:Spec:=G7.sp KQ
noncomputable def aak:Env:=eE [] (Ra []) qN
theorem yU:OK (1) 104 (G7.sp KQ):=
 fO (env:=aak) (za cn) (fn:=Tryz.f104) (mc:=@LQ) (by intros;simp only[KQ,LQ,nn]) (Ca:=[1])
def S5:FS (Int×Int) (Int)where
 sk:=⟨Ag,[],0⟩
 a:=λu=>(u.1.1,u.1.2.1)
 o:=λZ a r K=>kv K .i [] 0 r ()
def VP{X:Type}(a:Int×Int)(K:Int->Option X):Option X:=
 cond (decide (a.2<a.1))
 (K a.1)
 (K a.2)
def rJ:=λa=>VP a some
def uaa:Spec:=S5.sp rJ
noncomputable def gaj:Env:=eE [] (Ra []) qN
theorem vaa:OK (1) 151 (S5.sp rJ):=
 fO (env:=gaj) (za cn) (fn:=Tryz.f151) (mc:=@VP) (by intros;simp only[rJ,VP,nn])
end
end Go.U
end
