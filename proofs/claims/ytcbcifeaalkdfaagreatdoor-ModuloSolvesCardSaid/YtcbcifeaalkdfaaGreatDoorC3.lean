/- The functions of the program as Lean functions, and that the evaluator says so. -/
import Derived.Test.YtcbcifeaalkdfaaGreatDoorC2
set_option linter.unusedVariables false
set_option linter.unusedSimpArgs false
set_option linter.unusedSectionVars false
open ByteArray renaming size→Md
open Int renaming fdiv→Bb,tdiv→jb,tmod→zb,toNat→ia
open List renaming length→fa
section
set_option maxRecDepth 100000
namespace Go.U
open Go Go.Proofs
noncomputable section
variable {C:V.Callee}
def Pac:FS (ga×ga) (Int)where
 sk:=⟨(cL [(.agg La),(.agg La)]),[],0⟩
 a:=λu=>((q3 u.1.1),u.1.2.1.1,(u.1.2.1.2.1,u.1.2.1.2.2.1))
 o:=λZ a r K=>kv K (.int .u64) [] 0 r ()
def AS{X:Type}(a:ga×ga)(K:Int->Option X):Option X:=
 (Dg ((Ia a.1.2.1),(Ia a.2.2.1))).bind λr1=>
 (dh (Ka (a.1.2.2-a.2.2.2))).bind λr2=>
 (Dg (r1,r2)).bind λr3=>
 K r3
def uM:=λa=>AS a some
def Fag:Spec:=Pac.sp uM
noncomputable def Uan:Env:=eE [] (Ra [(128,It),(129,Xp)]) qN
theorem Gag:OK (2) 99 (Pac.sp uM):=
 fO (env:=Uan) (za (cc Jt (cc Yp cn))) (fn:=Tryz.f99) (mc:=@AS) (by intros;simp only[uM,AS,nn]) (Ca:=[2,3])
def Pad:FS (ga×ga) (ga)where
 sk:=⟨(cL [(.agg La),(.agg La)]),[],0⟩
 a:=λu=>((q3 u.1.1),u.1.2.1.1,(u.1.2.1.2.1,u.1.2.1.2.2.1))
 o:=λZ a r K=>kv K (.agg La) [] 0 (r.1,r.2.1,r.2.2,()) ()
def vT{X:Type}(a:ga×ga)(K:ga->Option X):Option X:=
 cond a.1.1
 (K a.2)
 (cond a.2.1
 (K a.1)
 ((uM (a.1,a.2)).bind λr1=>
 (Fo (r1,a.1.2.2)).bind λr2=>
 K r2))
def yu:=λa=>vT a some
def MD:Spec:=Pad.sp yu
noncomputable def Fao:Env:=eE [] (Ra [(99,Fag),(98,pD)]) qN
theorem ND:OK (5) 51 (Pad.sp yu):=
 fO (env:=Fao) (za (cc Gag (cc qD cn))) (fn:=Tryz.f51) (mc:=@vT) (by intros;simp only[yu,vT,nn]) (Ca:=[2,3,4])
def aad:FS (ga) (ga)where
 sk:=⟨(.cons (.agg La) .nil),[],0⟩
 a:=λu=>(q3 u.1.1)
 o:=λZ a r K=>kv K (.agg La) [] 0 (r.1,r.2.1,r.2.2,()) ()
def wM{X:Type}(a:ga)(K:ga->Option X):Option X:=
 cond a.1
 (cond (decide (a.2.2<(0:Int)))
 ((Li (Ka ((0:Int)-a.2.2))).bind λr1=>
 K (r1.1,(0,r1.2)))
 (K a))
 (cond (decide (a.2.1=(0:Int)))
 (cond (decide (a.2.2<(0:Int)))
 ((Li (Ka ((0:Int)-a.2.2))).bind λr2=>
 K (r2.1,(0,r2.2)))
 (K a))
 ((vD a).bind λr3=>
 (yu (a,r3)).bind λr4=>
 K r4))
def uD:=λa=>wM a some
def aah:Spec:=aad.sp uD
noncomputable def fao:Env:=eE [] (Ra [(127,Zp),(86,D1),(51,MD)]) qN
theorem bah:OK (6) 88 (aad.sp uD):=
 fO (env:=fao) (za (cc aq (cc E1 (cc ND cn)))) (fn:=Tryz.f88) (mc:=@wM) (by intros;simp only[uD,wM,nn]) (Ca:=[1,2])
def cad:FS (ga×ga) (ga)where
 sk:=⟨(cL [(.agg La),(.agg La)]),[],0⟩
 a:=λu=>((q3 u.1.1),u.1.2.1.1,(u.1.2.1.2.1,u.1.2.1.2.2.1))
 o:=λZ a r K=>kv K (.agg La) [] 0 (r.1,r.2.1,r.2.2,()) ()
def NS{X:Type}(a:ga×ga)(K:ga->Option X):Option X:=
 (uD a.1).bind λr1=>
 K r1
def SA:=λa=>NS a some
def cah:Spec:=cad.sp SA
noncomputable def gao:Env:=eE [] (Ra [(88,aah)]) qN
theorem dah:OK (7) 87 (cad.sp SA):=
 fO (env:=gao) (za (cc bah cn)) (fn:=Tryz.f87) (mc:=@NS) (by intros;simp only[SA,NS,nn]) (Ca:=[2,3,4])
def Zac:FS (ga×ga) (ga)where
 sk:=⟨(cL [(.agg La),(.agg La)]),[],0⟩
 a:=λu=>((q3 u.1.1),u.1.2.1.1,(u.1.2.1.2.1,u.1.2.1.2.2.1))
 o:=λZ a r K=>kv K (.agg La) [] 0 (r.1,r.2.1,r.2.2,()) ()
def MS{X:Type}(a:ga×ga)(K:ga->Option X):Option X:=
 cond a.1.1
 (K (true,(0,0)))
 (cond a.2.1
 (K (true,(0,0)))
 ((Dg ((Ia a.1.2.1),(Ia a.2.2.1))).bind λr1=>
 (Fo (r1,(Ka (a.1.2.2+a.2.2.2)))).bind λr2=>
 K r2))
def RA:=λa=>MS a some
def Yag:Spec:=Zac.sp RA
noncomputable def eao:Env:=eE [] (Ra [(124,ek),(128,It),(98,pD)]) qN
theorem Zag:OK (5) 89 (Zac.sp RA):=
 fO (env:=eao) (za (cc fk (cc Jt (cc qD cn)))) (fn:=Tryz.f89) (mc:=@MS) (by intros;simp only[RA,MS,nn]) (Ca:=[2,3,4])
def Yac:FS (ga×ga) (ga)where
 sk:=⟨(cL [(.agg La),(.agg La)]),[],0⟩
 a:=λu=>((q3 u.1.1),u.1.2.1.1,(u.1.2.1.2.1,u.1.2.1.2.2.1))
 o:=λZ a r K=>kv K (.agg La) [] 0 (r.1,r.2.1,r.2.2,()) ()
def KS{X:Type}(a:ga×ga)(K:ga->Option X):Option X:=
 cond a.1.1
 (K (true,(0,0)))
 (cond a.2.1
 (K (true,(0,0)))
 ((Dg ((Ia a.1.2.1),(Ia a.2.2.1))).bind λr1=>
 (Fo (r1,(Ka (a.1.2.2-a.2.2.2)))).bind λr2=>
 K r2))
def QA:=λa=>KS a some
def Wag:Spec:=Yac.sp QA
noncomputable def dao:Env:=eE [] (Ra [(124,ek),(128,It),(98,pD)]) qN
theorem Xag:OK (5) 90 (Yac.sp QA):=
 fO (env:=dao) (za (cc fk (cc Jt (cc qD cn)))) (fn:=Tryz.f90) (mc:=@KS) (by intros;simp only[QA,KS,nn]) (Ca:=[2,3,4])
def X5:FS (Int×Int) (Int×Int)where
 sk:=⟨Rk,[],0⟩
 a:=λu=>(u.1.1,u.1.2.1)
 o:=λZ a r K=>kv K (.Re Rk) [] 0 (r.1,r.2,()) ()
def ZP{X:Type}(a:Int×Int)(K:(Int×Int)->Option X):Option X:=
 K ((Ia ((Ia ((Ia ((Bb a.1 (2^min 32 64)) * (Bb a.2 (2^min 32 64))))+(Bb (Ia ((Ia ((Bb a.1 (2^min 32 64)) * (Ic .u64 a.2 4294967295)))+(Bb (Ia ((Ic .u64 a.1 4294967295) * (Ic .u64 a.2 4294967295))) (2^min 32 64)))) (2^min 32 64))))+(Bb (Ia ((Ic .u64 (Ia ((Ia ((Bb a.1 (2^min 32 64)) * (Ic .u64 a.2 4294967295)))+(Bb (Ia ((Ic .u64 a.1 4294967295) * (Ic .u64 a.2 4294967295))) (2^min 32 64)))) 4294967295)+(Ia ((Ic .u64 a.1 4294967295) * (Bb a.2 (2^min 32 64)))))) (2^min 32 64)))),(Ia (a.1 * a.2)))
def YP:=λa=>ZP a some
def jU:Spec:=X5.sp YP
noncomputable def iaj:Env:=eE [] (Ra []) qN
theorem kU:OK (1) 148 (X5.sp YP):=
 fO (env:=iaj) (za cn) (fn:=Tryz.f148) (mc:=@ZP) (by intros;simp only[YP,ZP,nn])
def L6:FS (Int×Int) (rF)where
 sk:=⟨Ag,[],0⟩
 a:=λu=>(u.1.1,u.1.2.1)
 o:=λZ a r K=>kv K (.agg GL) [] 0 (r.1.1,r.1.2,r.2,()) ()
def MJ{X:Type}(a:Int×Int)(K:rF->Option X):Option X:=
 (dh a.1).bind λr1=>
 (dh a.2).bind λr2=>
 K (((Ia ((Ia ((Ia ((Bb r1 (2^min 32 64)) * (Bb r2 (2^min 32 64))))+(Bb (Ia ((Ia ((Bb r1 (2^min 32 64)) * (Ic .u64 r2 4294967295)))+(Bb (Ia ((Ic .u64 r1 4294967295) * (Ic .u64 r2 4294967295))) (2^min 32 64)))) (2^min 32 64))))+(Bb (Ia ((Ic .u64 (Ia ((Ia ((Bb r1 (2^min 32 64)) * (Ic .u64 r2 4294967295)))+(Bb (Ia ((Ic .u64 r1 4294967295) * (Ic .u64 r2 4294967295))) (2^min 32 64)))) 4294967295)+(Ia ((Ic .u64 r1 4294967295) * (Bb r2 (2^min 32 64)))))) (2^min 32 64)))),(Ia (r1 * r2))),(!((decide (a.1<(0:Int)))==(decide (a.2<(0:Int))))))
def Rz:=λa=>MJ a some
def Xaa:Spec:=L6.sp Rz
noncomputable def Caj:Env:=eE [] (Ra [(129,Xp),(148,jU)]) qN
theorem Yaa:OK (2) 130 (L6.sp Rz):=
 fO (env:=Caj) (za (cc Yp (cc kU cn))) (fn:=Tryz.f130) (mc:=@MJ) (by intros;simp only[Rz,MJ,nn]) (Ca:=[4])
def B5:FS (Int) (Int)where
 sk:=⟨(.cons (.int .u64) .nil),[],0⟩
 a:=λu=>u.1.1
 o:=λZ a r K=>kv K .i [] 0 r ()
def GP{X:Type}(a:Int)(K:Int->Option X):Option X:=
 let zA:=str len8
 let zB:=Bb a (2^min 32 64)
 let zC:=Md zA
 let zD:=2^min 16 64
 let zE:=Bb zB zD
 let zF:=Bb a zD
 cond (decide ((4294967296:Int)<=a))
 (cond (decide ((65536:Int)<=zB))
 (cond (decide ((256:Int)<=zE))
 (ask (V.ua (CN (Bb zE (2^min 8 64))) zC) (K (Ka ((56:Int)+(Ka (Nr zA (CN (Bb zE (2^min 8 64)))))))))
 (ask (V.ua (CN zE) zC) (K (Ka ((48:Int)+(Ka (Nr zA (CN zE))))))))
 (cond (decide ((256:Int)<=zB))
 (ask (V.ua (CN (Bb zB (2^min 8 64))) zC) (K (Ka ((40:Int)+(Ka (Nr zA (CN (Bb zB (2^min 8 64)))))))))
 (ask (V.ua (CN zB) zC) (K (Ka ((32:Int)+(Ka (Nr zA (CN zB)))))))))
 (cond (decide ((65536:Int)<=a))
 (cond (decide ((256:Int)<=zF))
 (ask (V.ua (CN (Bb zF (2^min 8 64))) zC) (K (Ka ((24:Int)+(Ka (Nr zA (CN (Bb zF (2^min 8 64)))))))))
 (ask (V.ua (CN zF) zC) (K (Ka ((16:Int)+(Ka (Nr zA (CN zF))))))))
 (cond (decide ((256:Int)<=a))
 (ask (V.ua (CN (Bb a (2^min 8 64))) zC) (K (Ka ((8:Int)+(Ka (Nr zA (CN (Bb a (2^min 8 64)))))))))
 (ask (V.ua (CN a) zC) (K (Ka ((0:Int)+(Ka (Nr zA (CN a)))))))))
def hJ:=λa=>GP a some
def X_:Spec:=B5.sp hJ
noncomputable def Yai:Env:=eE [] (Ra []) qN
theorem Y_:OK (1) 171 (B5.sp hJ):=
 fO (env:=Yai) (za cn) (fn:=Tryz.f171) (mc:=@GP) (by intros;simp only[hJ,GP,nn])
def y5:FS (Int) (Int)where
 sk:=⟨(.cons (.int .u64) .nil),[],0⟩
 a:=λu=>u.1.1
 o:=λZ a r K=>kv K .i [] 0 r ()
def FP{X:Type}(a:Int)(K:Int->Option X):Option X:=
 (hJ a).bind λr1=>
 K (Ka ((64:Int)-r1))
def gJ:=λa=>FP a some
def V_:Spec:=y5.sp gJ
noncomputable def Xai:Env:=eE [] (Ra [(171,X_)]) qN
theorem W_:OK (2) 175 (y5.sp gJ):=
 fO (env:=Xai) (za (cc Y_ cn)) (fn:=Tryz.f175) (mc:=@FP) (by intros;simp only[gJ,FP,nn])
def E5:FS (Int×Int×Int) (Int×Int)where
 sk:=⟨(.cons (.int .u64) Rk),[],0⟩
 a:=λu=>(u.1.1,u.1.2.1,u.1.2.2.1)
 o:=λZ a r K=>kv K (.Re Rk) [] 0 (r.1,r.2,()) ()
abbrev CE:LD (Int×Int×Int×Int×Int×Int×Int) (Int×Int) (Int)where
 sk:=⟨[(2,.v (.int .u64)),(8,.v (.int .u64)),(9,.v (.int .u64)),(10,.v (.int .u64)),(11,.v (.int .u64)),(13,.v (.int .u64)),(14,.v (.int .u64)),(15,.v (.int .u64)),(16,.v (.int .u64))],[],[],0,0⟩
 p:=λu=>(r6 u.1 u.1.t6.1)
 t:=λu=>(u.1.t7.1,u.1.t8.1)
 n:=λp t=>((r6 p (p.t6,t.1,t.2,())),(),())
 st:=λY p t ki ke=>cond (decide ((4294967296:Int)<=t.1))
  (cond (decide ((4294967296:Int)<=(Ia (t.2+p.2.2.1))))
  (ke ((Ia (t.1-(1:Int)))))
  (ki ((Ia (t.1-(1:Int))),(Ia (t.2+p.2.2.1)))))
  (cond (decide ((Ia ((Ia ((4294967296:Int) * t.2))+p.2.2.2.2.2.1))<(Ia (t.1 * p.2.2.2.1))))
  (cond (decide ((4294967296:Int)<=(Ia (t.2+p.2.2.1))))
  (ke ((Ia (t.1-(1:Int)))))
  (ki ((Ia (t.1-(1:Int))),(Ia (t.2+p.2.2.1)))))
  (ke (t.1)))
 o:=λZ p e K=>so K (.exit 0) ⟨[(2,.v (.int .u64)),(8,.v (.int .u64)),(9,.v (.int .u64)),(10,.v (.int .u64)),(11,.v (.int .u64)),(13,.v (.int .u64)),(14,.v (.int .u64)),(15,.v (.int .u64))],[],[],0,0⟩ ((r6 p (p.t6,e,())),(),())
 ve:=⟨[2,8,9,10,11,13,14,15,16],[],[],[]⟩
 pe:=[(.exit 0,⟨[2,8,9,10,11,13,14,15],[],[],[]⟩)]
abbrev BE:LD (Int×Int×Int×Int×Int×Int×Int) (Int×Int) (Int)where
 sk:=⟨[(2,.v (.int .u64)),(8,.v (.int .u64)),(9,.v (.int .u64)),(10,.v (.int .u64)),(14,.v (.int .u64)),(15,.v (.int .u64)),(16,.v (.int .u64)),(17,.v (.int .u64)),(18,.v (.int .u64))],[],[],0,0⟩
 p:=λu=>(r6 u.1 u.1.t7.1)
 t:=λu=>(u.1.t6.1,u.1.t8.1)
 n:=λp t=>((r6 p (t.1,p.t6,t.2,())),(),())
 st:=λY p t ki ke=>cond (decide ((4294967296:Int)<=t.2))
  (cond (decide ((4294967296:Int)<=(Ia (t.1+p.2.2.1))))
  (ke ((Ia (t.2-(1:Int)))))
  (ki ((Ia (t.1+p.2.2.1)),(Ia (t.2-(1:Int))))))
  (cond (decide ((Ia ((Ia ((4294967296:Int) * t.1))+p.2.2.2.2.1))<(Ia (t.2 * p.2.2.2.1))))
  (cond (decide ((4294967296:Int)<=(Ia (t.1+p.2.2.1))))
  (ke ((Ia (t.2-(1:Int)))))
  (ki ((Ia (t.1+p.2.2.1)),(Ia (t.2-(1:Int))))))
  (ke (t.2)))
 o:=λZ p e K=>so K (.exit 2) ⟨[(2,.v (.int .u64)),(8,.v (.int .u64)),(14,.v (.int .u64)),(15,.v (.int .u64)),(17,.v (.int .u64)),(18,.v (.int .u64))],[],[],0,0⟩ ((p.1,p.2.1,p.t4.1,p.t5.1,p.t6,e,()),(),())
 ve:=⟨[2,8,9,10,14,15,16,17,18],[],[],[]⟩
 pe:=[(.exit 2,⟨[2,8,14,15,17,18],[],[],[]⟩)]
def iJ{X:Type}(a:Int×Int×Int)(K:(Int×Int)->Option X):Option X:=
 let zA:=2^min 32 64
 let zB:=(4294967296:Int)
 let zC:=decide (a.2.2=(0:Int))
 cond zC
 (none)
 (cond (decide (a.2.2<=a.1))
 (none)
 (cond (decide (a.1=(0:Int)))
 (cond zC
 (none)
 (cond zC
 (none)
 (K ((Ia (jb a.2.1 a.2.2)),(zb a.2.1 a.2.2)))))
 ((gJ a.2.2).bind λr1=>
 ask (decide ((0:Int)<=(Ia r1))) (ask (decide ((0:Int)<=(Ia r1))) (ask (decide ((0:Int)<=(Ia ((64:Int)-(Ia r1))))) (ask (decide ((0:Int)<=(Ia r1))) (cond (decide ((Bb (Ia (a.2.2 * 2^min (ia (Ia r1)) 64)) zA)=(0:Int)))
 (none)
 ((Ua (CE.m ((Ia (a.2.2 * 2^min (ia (Ia r1)) 64)),(Ia r1),(Bb (Ia (a.2.2 * 2^min (ia (Ia r1)) 64)) zA),(Ic .u64 (Ia (a.2.2 * 2^min (ia (Ia r1)) 64)) 4294967295),(Sl .u64 (Ia (a.1 * 2^min (ia (Ia r1)) 64)) (Bb a.2.1 (2^min (ia (Ia ((64:Int)-(Ia r1)))) 64))),(Bb (Ia (a.2.1 * 2^min (ia (Ia r1)) 64)) zA),(Ic .u64 (Ia (a.2.1 * 2^min (ia (Ia r1)) 64)) 4294967295))) ((Ia (jb (Sl .u64 (Ia (a.1 * 2^min (ia (Ia r1)) 64)) (Bb a.2.1 (2^min (ia (Ia ((64:Int)-(Ia r1)))) 64))) (Bb (Ia (a.2.2 * 2^min (ia (Ia r1)) 64)) zA))),(Ia ((Sl .u64 (Ia (a.1 * 2^min (ia (Ia r1)) 64)) (Bb a.2.1 (2^min (ia (Ia ((64:Int)-(Ia r1)))) 64)))-(Ia ((Ia (jb (Sl .u64 (Ia (a.1 * 2^min (ia (Ia r1)) 64)) (Bb a.2.1 (2^min (ia (Ia ((64:Int)-(Ia r1)))) 64))) (Bb (Ia (a.2.2 * 2^min (ia (Ia r1)) 64)) zA))) * (Bb (Ia (a.2.2 * 2^min (ia (Ia r1)) 64)) zA))))))).bind λe2=>
 cond (decide ((Bb (Ia (a.2.2 * 2^min (ia (Ia r1)) 64)) zA)=(0:Int)))
 (none)
 ((Ua (BE.m ((Ia (a.2.2 * 2^min (ia (Ia r1)) 64)),(Ia r1),(Bb (Ia (a.2.2 * 2^min (ia (Ia r1)) 64)) zA),(Ic .u64 (Ia (a.2.2 * 2^min (ia (Ia r1)) 64)) 4294967295),(Ic .u64 (Ia (a.2.1 * 2^min (ia (Ia r1)) 64)) 4294967295),e2,(Ia ((Ia ((Ia ((Sl .u64 (Ia (a.1 * 2^min (ia (Ia r1)) 64)) (Bb a.2.1 (2^min (ia (Ia ((64:Int)-(Ia r1)))) 64))) * zB))+(Bb (Ia (a.2.1 * 2^min (ia (Ia r1)) 64)) zA)))-(Ia (e2 * (Ia (a.2.2 * 2^min (ia (Ia r1)) 64)))))))) ((Ia ((Ia ((Ia ((Ia ((Sl .u64 (Ia (a.1 * 2^min (ia (Ia r1)) 64)) (Bb a.2.1 (2^min (ia (Ia ((64:Int)-(Ia r1)))) 64))) * zB))+(Bb (Ia (a.2.1 * 2^min (ia (Ia r1)) 64)) zA)))-(Ia (e2 * (Ia (a.2.2 * 2^min (ia (Ia r1)) 64))))))-(Ia ((Ia (jb (Ia ((Ia ((Ia ((Sl .u64 (Ia (a.1 * 2^min (ia (Ia r1)) 64)) (Bb a.2.1 (2^min (ia (Ia ((64:Int)-(Ia r1)))) 64))) * zB))+(Bb (Ia (a.2.1 * 2^min (ia (Ia r1)) 64)) zA)))-(Ia (e2 * (Ia (a.2.2 * 2^min (ia (Ia r1)) 64)))))) (Bb (Ia (a.2.2 * 2^min (ia (Ia r1)) 64)) zA))) * (Bb (Ia (a.2.2 * 2^min (ia (Ia r1)) 64)) zA))))),(Ia (jb (Ia ((Ia ((Ia ((Sl .u64 (Ia (a.1 * 2^min (ia (Ia r1)) 64)) (Bb a.2.1 (2^min (ia (Ia ((64:Int)-(Ia r1)))) 64))) * zB))+(Bb (Ia (a.2.1 * 2^min (ia (Ia r1)) 64)) zA)))-(Ia (e2 * (Ia (a.2.2 * 2^min (ia (Ia r1)) 64)))))) (Bb (Ia (a.2.2 * 2^min (ia (Ia r1)) 64)) zA))))).bind λe3=>
 ask (decide ((0:Int)<=(Ia r1))) (K ((Ia ((Ia (e2 * zB))+e3)),(Bb (Ia ((Ia ((Ia ((Ia ((Ia ((Ia ((Sl .u64 (Ia (a.1 * 2^min (ia (Ia r1)) 64)) (Bb a.2.1 (2^min (ia (Ia ((64:Int)-(Ia r1)))) 64))) * zB))+(Bb (Ia (a.2.1 * 2^min (ia (Ia r1)) 64)) zA)))-(Ia (e2 * (Ia (a.2.2 * 2^min (ia (Ia r1)) 64)))))) * zB))+(Ic .u64 (Ia (a.2.1 * 2^min (ia (Ia r1)) 64)) 4294967295)))-(Ia (e3 * (Ia (a.2.2 * 2^min (ia (Ia r1)) 64)))))) (2^min (ia (Ia r1)) 64)))))))))))))
def AE:=λa=>iJ a some
def Z_:Spec:=E5.sp AE
noncomputable def JP:Env:=eE [] (Ra [(175,V_)]) (qL 17 CE.q (qL 24 BE.q qN))
theorem NM:LL C JP [] Tryz.f169 147455:=λhc=>
 lO hc CE
theorem MM:LL C JP [] Tryz.f169 2359295:=λhc=>
 lO hc BE
theorem aaa:OK (3) 169 (E5.sp AE):=
 fO (env:=JP) (za (cc W_ cn)) (fn:=Tryz.f169) (mc:=@iJ) (by intros;simp only[AE,iJ,nn]) (hl:=λhc=>(Vi (Ta (NM hc) (Ta (MM hc) fc))))
def J5:FS (Int×Int×Int) (Int)where
 sk:=⟨(.cons (.int .u64) Rk),[],0⟩
 a:=λu=>(u.1.1,u.1.2.1,u.1.2.2.1)
 o:=λZ a r K=>kv K (.int .u64) [] 0 r ()
def kJ{X:Type}(a:Int×Int×Int)(K:Int->Option X):Option X:=
 cond (decide (a.2.2=(0:Int)))
 (none)
 ((AE ((zb a.1 a.2.2),a.2.1,a.2.2)).bind λr1=>
 K r1.2)
def DE:=λa=>kJ a some
def daa:Spec:=J5.sp DE
noncomputable def baj:Env:=eE [] (Ra [(169,Z_)]) qN
theorem eaa:OK (4) 162 (J5.sp DE):=
 fO (env:=baj) (za (cc aaa cn)) (fn:=Tryz.f162) (mc:=@kJ) (by intros;simp only[DE,kJ,nn])
def K6:FS (Kd×Int) (Int)where
 sk:=⟨(cL [(.agg Rk),(.int .u64)]),[],0⟩
 a:=λu=>((u.1.1.1,u.1.1.2.1),u.1.2.1)
 o:=λZ a r K=>kv K (.int .u64) [] 0 r ()
def LJ{X:Type}(a:Kd×Int)(K:Int->Option X):Option X:=
 (DE (a.1.1,a.1.2,a.2)).bind λr1=>
 K r1
def Bv:=λa=>LJ a some
def oU:Spec:=K6.sp Bv
noncomputable def Baj:Env:=eE [] (Ra [(162,daa)]) qN
theorem pU:OK (5) 131 (K6.sp Bv):=
 fO (env:=Baj) (za (cc eaa cn)) (fn:=Tryz.f131) (mc:=@LJ) (by intros;simp only[Bv,LJ,nn]) (Ca:=[2])
def Xac:FS (ga×ga) (ga)where
 sk:=⟨(cL [(.agg La),(.agg La)]),[],0⟩
 a:=λu=>((q3 u.1.1),u.1.2.1.1,(u.1.2.1.2.1,u.1.2.1.2.2.1))
 o:=λZ a r K=>kv K (.agg La) [] 0 (r.1,r.2.1,r.2.2,()) ()
def JS{X:Type}(a:ga×ga)(K:ga->Option X):Option X:=
 cond a.1.1
 (K (true,(0,0)))
 (cond a.2.1
 (K (true,(0,0)))
 ((dh a.2.2.2).bind λr1=>
 (Dg ((Ia ((Ia a.1.2.1) * (Ia a.2.2.1))),(Ia ((Ia a.1.2.1) * r1)))).bind λr2=>
 (dh a.1.2.2).bind λr3=>
 (Dg (r2,(Ia ((Ia a.2.2.1) * r3)))).bind λr4=>
 (Rz (a.1.2.2,a.2.2.2)).bind λr5=>
 cond (decide (r4=(0:Int)))
 (cond (!(decide (r5.1.1=(0:Int))))
 (K (true,(0,0)))
 (cond (decide ((4611686018427387904:Int)<r5.1.2))
 (K (true,(0,0)))
 (cond r5.2
 ((Li (Ka ((0:Int)-(Ka r5.1.2)))).bind λr6=>
 K (r6.1,(0,r6.2)))
 ((Li (Ka r5.1.2)).bind λr7=>
 K (r7.1,(0,r7.2))))))
 ((Bv (r5.1,r4)).bind λr8=>
 cond r5.2
 (cond (decide ((0:Int)<r8))
 ((Wj (r4,(Ia (r4-r8)))).bind λr9=>
 K r9)
 ((Wj (r4,r8)).bind λEN=>
 K EN))
 ((Wj (r4,r8)).bind λHR=>
 K HR))))
def PA:=λa=>JS a some
def Uag:Spec:=Xac.sp PA
noncomputable def cao:Env:=eE [] (Ra [(124,ek),(129,Xp),(128,It),(130,Xaa),(127,Zp),(131,oU),(132,VB)]) qN
theorem Vag:OK (6) 91 (Xac.sp PA):=
 fO (env:=cao) (za (cc fk (cc Yp (cc Jt (cc Yaa (cc aq (cc pU (cc WB cn)))))))) (fn:=Tryz.f91) (mc:=@JS) (by intros;simp only[PA,JS,nn]) (Ca:=[2,3,4,6])
def I6:FS (Unit) (Unit)where
 sk:=⟨.nil,[],0⟩
 a:=λu=>()
 o:=λZ a r K=>kv K (.agg La) [] 0 (false,(1:Int),(0:Int),()) ()
def iQ{X:Type}(a:Unit)(K:Unit->Option X):Option X:=
 K ()
def gQ:=λa=>iQ a some
def Vaa:Spec:=I6.sp gQ
noncomputable def zaj:Env:=eE [] (Ra []) qN
theorem Waa:OK (1) 133 (I6.sp gQ):=
 fO (env:=zaj) (za cn) (fn:=Tryz.f133) (mc:=@iQ) (by intros;simp only[gQ,iQ,nn]) (Ca:=[0])
def Wac:FS (ga×ga) (ga)where
 sk:=⟨(cL [(.agg La),(.agg La)]),[],0⟩
 a:=λu=>((q3 u.1.1),u.1.2.1.1,(u.1.2.1.2.1,u.1.2.1.2.2.1))
 o:=λZ a r K=>kv K (.agg La) [] 0 (r.1,r.2.1,r.2.2,()) ()
def IS{X:Type}(a:ga×ga)(K:ga->Option X):Option X:=
 cond a.1.1
 (K (true,(0,0)))
 (cond a.2.1
 (K (true,(0,0)))
 (cond ((a.2.1==false)&&((decide (a.2.2.1=(0:Int)))&&((decide (a.2.2.2=(0:Int)))&&true)))
 (K (true,(0,0)))
 (cond (!(decide (a.2.2.1=(0:Int))))
 (K (false,(1,0)))
 (cond (decide (a.1.2.1=(0:Int)))
 (cond (decide (a.2.2.2=(0:Int)))
 (none)
 ((Li (Ka (jb a.1.2.2 a.2.2.2))).bind λr1=>
 K (r1.1,(0,r1.2))))
 (cond (decide (a.2.2.2=(0:Int)))
 (none)
 (cond (decide ((zb a.1.2.1 a.2.2.2)=(0:Int)))
 (cond (decide (a.2.2.2=(0:Int)))
 (none)
 (cond (decide ((zb a.1.2.2 a.2.2.2)=(0:Int)))
 (cond (decide (a.2.2.2=(0:Int)))
 (none)
 (cond (decide (a.2.2.2=(0:Int)))
 (none)
 ((Cm ((Ka (jb a.1.2.1 a.2.2.2)),(Ka (jb a.1.2.2 a.2.2.2)))).bind λr2=>
 K r2)))
 (K (false,(1,0)))))
 (K (false,(1,0)))))))))
def OA:=λa=>IS a some
def Rag:Spec:=Wac.sp OA
noncomputable def bao:Env:=eE [] (Ra [(124,ek),(133,Vaa),(127,Zp),(122,TJ)]) qN
theorem Sag:OK (5) 92 (Wac.sp OA):=
 fO (env:=bao) (za (cc fk (cc Waa (cc aq (cc UJ cn))))) (fn:=Tryz.f92) (mc:=@IS) (by intros;simp only[OA,IS,nn]) (Ca:=[2,3,4])
def Vac:FS (ga×ga) (ga)where
 sk:=⟨(cL [(.agg La),(.agg La)]),[],0⟩
 a:=λu=>((q3 u.1.1),u.1.2.1.1,(u.1.2.1.2.1,u.1.2.1.2.2.1))
 o:=λZ a r K=>kv K (.agg La) [] 0 (r.1,r.2.1,r.2.2,()) ()
def HS{X:Type}(a:ga×ga)(K:ga->Option X):Option X:=
 cond a.1.1
 (K (true,(0,0)))
 (cond a.2.1
 (K (true,(0,0)))
 (cond ((a.2.1==false)&&((decide (a.2.2.1=(0:Int)))&&((decide (a.2.2.2=(0:Int)))&&true)))
 (K (true,(0,0)))
 (cond (decide (a.1.2.1=(0:Int)))
 (cond (decide (a.2.2.1=(0:Int)))
 (cond (decide (a.2.2.2=(0:Int)))
 (none)
 ((Li (zb a.1.2.2 a.2.2.2)).bind λr1=>
 K (r1.1,(0,r1.2))))
 ((Dg ((Ia a.1.2.1),(Ia a.2.2.1))).bind λr2=>
 (dh a.2.2.2).bind λr3=>
 (Dg (r2,r3)).bind λr4=>
 (Fo (r4,a.1.2.2)).bind λr5=>
 K r5))
 ((Dg ((Ia a.1.2.1),(Ia a.2.2.1))).bind λr6=>
 (dh a.2.2.2).bind λr7=>
 (Dg (r6,r7)).bind λr8=>
 (Fo (r8,a.1.2.2)).bind λr9=>
 K r9))))
def NA:=λa=>HS a some
def Pag:Spec:=Vac.sp NA
noncomputable def aao:Env:=eE [] (Ra [(124,ek),(127,Zp),(128,It),(129,Xp),(98,pD)]) qN
theorem Qag:OK (5) 93 (Vac.sp NA):=
 fO (env:=aao) (za (cc fk (cc aq (cc Jt (cc Yp (cc qD cn)))))) (fn:=Tryz.f93) (mc:=@HS) (by intros;simp only[NA,HS,nn]) (Ca:=[2,3,4])
def gad:FS (ga×ga) (ga)where
 sk:=⟨(cL [(.agg La),(.agg La)]),[],0⟩
 a:=λu=>((q3 u.1.1),u.1.2.1.1,(u.1.2.1.2.1,u.1.2.1.2.2.1))
 o:=λZ a r K=>kv K (.agg La) [] 0 (r.1,r.2.1,r.2.2,()) ()
def QS{X:Type}(a:ga×ga)(K:ga->Option X):Option X:=
 cond a.1.1
 (K (true,(0,0)))
 (cond a.2.1
 (K (true,(0,0)))
 ((yu (a.1,a.2)).bind λr1=>
 K r1))
def Cr:=λa=>QS a some
def iah:Spec:=gad.sp Cr
noncomputable def lao:Env:=eE [] (Ra [(84,I1),(51,MD)]) qN
theorem jah:OK (6) 83 (gad.sp Cr):=
 fO (env:=lao) (za (cc J1 (cc ND cn))) (fn:=Tryz.f83) (mc:=@QS) (by intros;simp only[Cr,QS,nn]) (Ca:=[2,3,4])
def P3:FS (Y5) (Y6)where
 sk:=⟨(cL [(.ptr 0 0),.i]),[.Ee vO,.Pe .i true Vd,.Pe .i true Ma,.Jg .i [((2:Int),(.fn 85 .nil)),((3:Int),(.fn 87 .nil)),((4:Int),(.fn 89 .nil)),((5:Int),(.fn 90 .nil)),((6:Int),(.fn 91 .nil)),((7:Int),(.fn 92 .nil)),((8:Int),(.fn 93 .nil)),((9:Int),(.fn 83 .nil)),((10:Int),(.fn 83 .nil))]],0⟩
 a:=λu=>(u.1.2.1,(q8 u.2.1),(q3 u.2.1.t8),u.2.2.1,u.t3.1)
 o:=λZ a r K=>kv K (.agg La) [.Ee vO,.Pe .i true Vd,.Pe .i true Ma,.Jg .i [((2:Int),(.fn 85 .nil)),((3:Int),(.fn 87 .nil)),((4:Int),(.fn 89 .nil)),((5:Int),(.fn 90 .nil)),((6:Int),(.fn 91 .nil)),((7:Int),(.fn 92 .nil)),((8:Int),(.fn 93 .nil)),((9:Int),(.fn 83 .nil)),((10:Int),(.fn 83 .nil))]] 0 (r.1.1,r.1.2.1,r.1.2.2,()) ((r7 a.2.1 (a.2.1.t7,a.2.2.1.1,a.2.2.1.2.1,a.2.2.1.2.2,(),(),(),())),a.t3.1,r.2,((),(),(),(),(),(),(),(),(),()),())
class sg where
 m:(Int×Ba×Ga×(List (Int×Lb))×(List (Int×ga)))->Option (ga×(List (Int×ga)))
section
variable [sg]
def nv:Spec:=P3.sp sg.m
end
section
variable [sg]
def Uac:FS (Y7) (Y6)where
 sk:=⟨(cL [(.ptr 0 0),(.agg Sc)]),[.Ee vO,.Pe .i true Vd,.Pe .i true Ma,.Jg .i [((2:Int),(.fn 85 .nil)),((3:Int),(.fn 87 .nil)),((4:Int),(.fn 89 .nil)),((5:Int),(.fn 90 .nil)),((6:Int),(.fn 91 .nil)),((7:Int),(.fn 92 .nil)),((8:Int),(.fn 93 .nil)),((9:Int),(.fn 83 .nil)),((10:Int),(.fn 83 .nil))]],0⟩
 a:=λu=>((q8 u.1.2.1),(q8 u.2.1),(q3 u.2.1.t8),u.2.2.1,u.t3.1)
 o:=λZ a r K=>kv K (.agg La) [.Ee vO,.Pe .i true Vd,.Pe .i true Ma,.Jg .i [((2:Int),(.fn 85 .nil)),((3:Int),(.fn 87 .nil)),((4:Int),(.fn 89 .nil)),((5:Int),(.fn 90 .nil)),((6:Int),(.fn 91 .nil)),((7:Int),(.fn 92 .nil)),((8:Int),(.fn 93 .nil)),((9:Int),(.fn 83 .nil)),((10:Int),(.fn 83 .nil))]] 0 (r.1.1,r.1.2.1,r.1.2.2,()) ((r7 a.2.1 (a.2.1.t7,a.2.2.1.1,a.2.2.1.2.1,a.2.2.1.2.2,(),(),(),())),a.t3.1,r.2,((),(),(),(),(),(),(),(),(),()),())
def GS{X:Type}(a:Y7)(K:(Y6)->Option X):Option X:=
 let zA:=sg.m (a.1.2.2.1,a.2.1,a.2.2.1,a.2.2.2.1,a.2.2.2.2)
 let zB:=(false,(0,0))
 let zC:=gx a.2.1.2.2.2.2.1 (ia a.1.2.2.1) Ob
 let zD:=decide (a.1.1=(2:Int))
 let zE:=decide (a.1.1=(3:Int))
 let zF:=decide (a.1.1=(10:Int))
 let zG:=decide (a.1.1=(4:Int))
 let zH:=decide (a.1.1=(5:Int))
 let zI:=decide (a.1.1=(6:Int))
 let zJ:=decide (a.1.1=(7:Int))
 let zK:=decide (a.1.1=(8:Int))
 let zL:=decide (a.1.1=(9:Int))
 cond (decide (a.1.1=(1:Int)))
 ((Gr a.1.2.2.2.2.1).bind λr1=>
 K (r1,a.2.2.2.2))
 (cond (decide (a.1.1=(11:Int)))
 (ask (V.ua a.1.2.2.1 (fa a.2.2.1.2.2)) (K ((gx a.2.2.1.2.2 (ia a.1.2.2.1) Aa),a.2.2.2.2)))
 (cond (decide (a.1.1=(12:Int)))
 (ask (V.ua a.1.2.2.1 (fa a.2.1.2.2.2.2.1)) (cond (decide (zC.2.2.1=zC.2.2.2))
 ((Gr zC.2.2.1).bind λr2=>
 K (r2,a.2.2.2.2))
 ((Qz ()).bind λr3=>
 K (r3,a.2.2.2.2))))
 (cond zD
 (cond zD
 (zA.bind λr4=>
 (UA (r4.1,zB)).bind λr5=>
 K (r5,r4.2))
 (cond zE
 (zA.bind λr6=>
 (SA (r6.1,zB)).bind λr7=>
 K (r7,r6.2))
 (cond zG
 (zA.bind λr8=>
 (RA (r8.1,zB)).bind λr9=>
 K (r9,r8.2))
 (cond zH
 (zA.bind λEN=>
 (QA (EN.1,zB)).bind λHR=>
 K (HR,EN.2))
 (cond zI
 (zA.bind λmI=>
 (PA (mI.1,zB)).bind λRX=>
 K (RX,mI.2))
 (cond zJ
 (zA.bind λr14=>
 (OA (r14.1,zB)).bind λr15=>
 K (r15,r14.2))
 (cond zK
 (zA.bind λr16=>
 (NA (r16.1,zB)).bind λr17=>
 K (r17,r16.2))
 (cond zL
 (zA.bind λr18=>
 (Cr (r18.1,zB)).bind λr19=>
 K (r19,r18.2))
 (cond zF
 (zA.bind λr20=>
 (Cr (r20.1,zB)).bind λr21=>
 K (r21,r20.2))
 (zA.bind λr22=>
 none))))))))))
 (cond zE
 (cond zD
 (zA.bind λr23=>
 (UA (r23.1,zB)).bind λr24=>
 K (r24,r23.2))
 (cond zE
 (zA.bind λr25=>
 (SA (r25.1,zB)).bind λr26=>
 K (r26,r25.2))
 (cond zG
 (zA.bind λr27=>
 (RA (r27.1,zB)).bind λr28=>
 K (r28,r27.2))
 (cond zH
 (zA.bind λr29=>
 (QA (r29.1,zB)).bind λr30=>
 K (r30,r29.2))
 (cond zI
 (zA.bind λr31=>
 (PA (r31.1,zB)).bind λr32=>
 K (r32,r31.2))
 (cond zJ
 (zA.bind λr33=>
 (OA (r33.1,zB)).bind λr34=>
 K (r34,r33.2))
 (cond zK
 (zA.bind λr35=>
 (NA (r35.1,zB)).bind λr36=>
 K (r36,r35.2))
 (cond zL
 (zA.bind λr37=>
 (Cr (r37.1,zB)).bind λr38=>
 K (r38,r37.2))
 (cond zF
 (zA.bind λr39=>
 (Cr (r39.1,zB)).bind λr40=>
 K (r40,r39.2))
 (zA.bind λr41=>
 none))))))))))
 (cond zD
 (zA.bind λr42=>
 (sg.m (a.1.2.2.2.1,a.2.1,a.2.2.1,a.2.2.2.1,r42.2)).bind λr43=>
 (UA (r42.1,r43.1)).bind λr44=>
 K (r44,r43.2))
 (cond zE
 (zA.bind λr45=>
 (sg.m (a.1.2.2.2.1,a.2.1,a.2.2.1,a.2.2.2.1,r45.2)).bind λr46=>
 (SA (r45.1,r46.1)).bind λr47=>
 K (r47,r46.2))
 (cond zG
 (zA.bind λr48=>
 (sg.m (a.1.2.2.2.1,a.2.1,a.2.2.1,a.2.2.2.1,r48.2)).bind λr49=>
 (RA (r48.1,r49.1)).bind λr50=>
 K (r50,r49.2))
 (cond zH
 (zA.bind λr51=>
 (sg.m (a.1.2.2.2.1,a.2.1,a.2.2.1,a.2.2.2.1,r51.2)).bind λr52=>
 (QA (r51.1,r52.1)).bind λr53=>
 K (r53,r52.2))
 (cond zI
 (zA.bind λr54=>
 (sg.m (a.1.2.2.2.1,a.2.1,a.2.2.1,a.2.2.2.1,r54.2)).bind λr55=>
 (PA (r54.1,r55.1)).bind λr56=>
 K (r56,r55.2))
 (cond zJ
 (zA.bind λr57=>
 (sg.m (a.1.2.2.2.1,a.2.1,a.2.2.1,a.2.2.2.1,r57.2)).bind λr58=>
 (OA (r57.1,r58.1)).bind λr59=>
 K (r59,r58.2))
 (cond zK
 (zA.bind λr60=>
 (sg.m (a.1.2.2.2.1,a.2.1,a.2.2.1,a.2.2.2.1,r60.2)).bind λr61=>
 (NA (r60.1,r61.1)).bind λr62=>
 K (r62,r61.2))
 (cond zL
 (zA.bind λr63=>
 (sg.m (a.1.2.2.2.1,a.2.1,a.2.2.1,a.2.2.2.1,r63.2)).bind λr64=>
 (Cr (r63.1,r64.1)).bind λr65=>
 K (r65,r64.2))
 (cond zF
 (zA.bind λr66=>
 (sg.m (a.1.2.2.2.1,a.2.1,a.2.2.1,a.2.2.2.1,r66.2)).bind λr67=>
 (Cr (r66.1,r67.1)).bind λr68=>
 K (r68,r67.2))
 (zA.bind λr69=>
 (sg.m (a.1.2.2.2.1,a.2.1,a.2.2.1,a.2.2.2.1,r69.2)).bind λr70=>
 none))))))))))))))
def tD:=λa=>GS a some
def Mag:Spec:=Uac.sp tD
noncomputable def Zan:Env:=eE [] (Ra [(70,V1),(134,Saa),(47,nv),(85,fah),(87,cah),(89,Yag),(90,Wag),(91,Uag),(92,Rag),(93,Pag),(83,iah)]) qN
theorem Nag{D:Nat}(Lw:OK D 47 nv):OK (D+8) 94 (Uac.sp tD):=
 fO (env:=Zan) (za (cc W1 (cc Taa (cc Lw (cc gah (cc dah (cc Zag (cc Xag (cc Vag (cc Sag (cc Qag (cc jah cn)))))))))))) (fn:=Tryz.f94) (mc:=λX a K=>GS a K) (by intros;simp only[tD,GS,nn]) (Ca:=[3,4,5,1000057,1000070,1000074])
end
section
variable [sg]
def zT{X:Type}(a:Y5)(K:(Y6)->Option X):Option X:=
 cond (!a.2.2.1.1)
 (K ((true,(0,0)),a.2.2.2.2))
 (cond (decide (a.1<(nt (fa a.2.1.2.2.2.2.2.1))))
 (ask (V.ua a.1 (fa a.2.2.1.2.1)) (K ((gx a.2.2.1.2.1 (ia a.1) Aa),a.2.2.2.2)))
 (cond (jD (k:=(.int .i64)) a.1 a.2.2.2.2)
 (K ((GB (k:=(.int .i64)) a.1 Aa a.2.2.2.2),a.2.2.2.2))
 (cond (jD (k:=(.int .i64)) a.1 a.2.2.2.1)
 ((tD ((GB (k:=(.int .i64)) a.1 Pb a.2.2.2.1),a.2.1,a.2.2.1,a.2.2.2.1,a.2.2.2.2)).bind λr1=>
 K (r1.1,(Mu (k:=(.int .i64)) a.1 r1.1 r1.2)))
 ((tD ((0,(0,(0,(0,(0,(0,(0,0))))))),a.2.1,a.2.2.1,a.2.2.2.1,a.2.2.2.2)).bind λr2=>
 K (r2.1,(Mu (k:=(.int .i64)) a.1 r2.1 r2.2))))))
def GM:=λa=>zT a some
noncomputable def Iao:Env:=eE [] (Ra [(84,I1),(94,Mag)]) qN
theorem P_{D:Nat}(Lw:OK D 47 nv):OK (D+9) 47 (P3.sp GM):=
 fO (env:=Iao) (za (cc J1 (cc (Nag Lw) cn))) (fn:=Tryz.f47) (mc:=λX a K=>zT a K) (by intros;simp only[GM,zT,nn]) (Ca:=[4,5,7])
end
def Hr:Nat->(Y5)->Option (Y6)
 |0,_=>none
 |n+1,a=>@GM ⟨Hr n⟩ a
theorem pH:∀n,OK (n * 9) 47 (P3.sp (Hr n))
 |0=>Vab λ_=>rfl
 |n+1=>Jae (@P_ ⟨Hr n⟩ _ (pH n)) (by omega)
def Am:Nat:=18446744073709551616
noncomputable instance:sg:=⟨Hr Am⟩
theorem pP:OK 166020696663385964544 47 nv:=Jae (pH Am) (by unfold Am;omega)
def s6:FS (Unit) (Unit)where
 sk:=⟨.nil,[],0⟩
 a:=λu=>()
 o:=λZ a r K=>kv K (.agg Ag) [] 0 ((1:Int),(0:Int),()) ()
def bQ{X:Type}(a:Unit)(K:Unit->Option X):Option X:=
 K ()
def aQ:=λa=>bQ a some
def QB:Spec:=s6.sp aQ
noncomputable def maj:Env:=eE [] (Ra []) qN
theorem SB:OK (1) 144 (s6.sp aQ):=
 fO (env:=maj) (za cn) (fn:=Tryz.f144) (mc:=@bQ) (by intros;simp only[aQ,bQ,nn]) (Ca:=[0])
def Rac:FS (Int) (Kd)where
 sk:=⟨(.cons .i .nil),[],0⟩
 a:=λu=>u.1.1
 o:=λZ a r K=>kv K (.agg Ag) [] 0 (r.1,r.2,()) ()
def CS{X:Type}(a:Int)(K:Kd->Option X):Option X:=
 let zA:=Ia ((Ia (4 * 2^min (ia (Ia a)) 64))-(1:Int))
 let zB:=((Ka ((0:Int)-(Ka (1 * 2^min (ia zA) 64)))),(Ka ((Ka (1 * 2^min (ia zA) 64))-(1:Int))))
 let zC:=decide ((0:Int)<=(Ia a))
 let zD:=decide ((0:Int)<=zA)
 cond (decide (a=(1:Int)))
 (ask zC (ask zD (K zB)))
 (cond (decide (a=(2:Int)))
 (ask zC (ask zD (K zB)))
 (cond (decide (a=(3:Int)))
 (ask zC (ask zD (K zB)))
 (K (1,0))))
def sD:=λa=>CS a some
def X0:Spec:=Rac.sp sD
noncomputable def Wan:Env:=eE [] (Ra [(144,QB)]) qN
theorem Z0:OK (2) 97 (Rac.sp sD):=
 fO (env:=Wan) (za (cc SB cn)) (fn:=Tryz.f97) (mc:=@CS) (by intros;simp only[sD,CS,nn]) (Ca:=[2])
def j6:FS (Int×Int) (Kd)where
 sk:=⟨Ag,[],0⟩
 a:=λu=>(u.1.1,u.1.2.1)
 o:=λZ a r K=>kv K (.agg Ag) [] 0 (r.1,r.2,()) ()
def xJ{X:Type}(a:Int×Int)(K:Kd->Option X):Option X:=
 let zA:= -4611686018427387904
 let zB:=if 4611686018427387904<(-4611686018427387903)then 4611686018427387904 else(-4611686018427387903)
 let zC:=if 4611686018427387904<a.2 then 4611686018427387904 else a.2
 let zD:=if zA>4611686018427387903 then zA else 4611686018427387903
 let zE:=decide (a.2<=(-4611686018427387904:Int))
 cond (decide (a.2<a.1))
 (K (1,0))
 (cond (decide ((4611686018427387904:Int)<=a.1))
 (cond zE
 (K (zD,zB))
 (K (zD,zC)))
 (cond zE
 (K ((if zA>a.1 then zA else a.1),zB))
 (K ((if zA>a.1 then zA else a.1),zC))))
def Kn:=λa=>xJ a some
def vJ:Spec:=j6.sp Kn
noncomputable def kaj:Env:=eE [] (Ra [(144,QB)]) qN
theorem wJ:OK (2) 146 (j6.sp Kn):=
 fO (env:=kaj) (za (cc SB cn)) (fn:=Tryz.f146) (mc:=@xJ) (by intros;simp only[Kn,xJ,nn]) (Ca:=[4])
def G5:FS (Kd) (Kd)where
 sk:=⟨(.cons (.agg Ag) .nil),[],0⟩
 a:=λu=>(u.1.1.1,u.1.1.2.1)
 o:=λZ a r K=>kv K (.agg Ag) [] 0 (r.1,r.2,()) ()
def jJ{X:Type}(a:Kd)(K:Kd->Option X):Option X:=
 (Kn (a.1,a.2)).bind λr1=>
 K r1
def tv:=λa=>jJ a some
def eU:Spec:=G5.sp tv
noncomputable def Zai:Env:=eE [] (Ra [(146,vJ)]) qN
theorem gU:OK (3) 164 (G5.sp tv):=
 fO (env:=Zai) (za (cc wJ cn)) (fn:=Tryz.f164) (mc:=@jJ) (by intros;simp only[tv,jJ,nn]) (Ca:=[1,2])
def u6:FS (Kd) (Bool)where
 sk:=⟨(.cons (.agg Ag) .nil),[],0⟩
 a:=λu=>(u.1.1.1,u.1.1.2.1)
 o:=λZ a r K=>kv K (.bool) [] 0 r ()
def dQ{X:Type}(a:Kd)(K:Bool->Option X):Option X:=
 K (decide (a.2<a.1))
def cQ:=λa=>dQ a some
def AJ:Spec:=u6.sp cQ
noncomputable def naj:Env:=eE [] (Ra []) qN
theorem BJ:OK (1) 143 (u6.sp cQ):=
 fO (env:=naj) (za cn) (fn:=Tryz.f143) (mc:=@dQ) (by intros;simp only[cQ,dQ,nn]) (Ca:=[1])
def x6:FS (Kd×Kd) (Kd)where
 sk:=⟨(cL [(.agg Ag),(.agg Ag)]),[],0⟩
 a:=λu=>((u.1.1.1,u.1.1.2.1),u.1.2.1.1,u.1.2.1.2.1)
 o:=λZ a r K=>kv K (.agg Ag) [] 0 (r.1,r.2,()) ()
def fQ{X:Type}(a:Kd×Kd)(K:Kd->Option X):Option X:=
 (tv a.1).bind λr1=>
 (tv a.2).bind λr2=>
 cond (decide (r1.2<r1.1))
 (K (1,0))
 (cond (decide (r2.2<r2.1))
 (K (1,0))
 ((Kn ((if r2.1>r1.1 then r2.1 else r1.1),(if r2.2<r1.2 then r2.2 else r1.2))).bind λr3=>
 K r3))
def FE:=λa=>fQ a some
def Eaa:Spec:=x6.sp FE
noncomputable def oaj:Env:=eE [] (Ra [(164,eU),(143,AJ),(144,QB),(146,vJ)]) qN
theorem Faa:OK (4) 142 (x6.sp FE):=
 fO (env:=oaj) (za (cc gU (cc BJ (cc SB (cc wJ cn))))) (fn:=Tryz.f142) (mc:=@fQ) (by intros;simp only[FE,fQ,nn]) (Ca:=[2,3,4])
def l6:FS (Kd×Int) (Bool)where
 sk:=⟨(cL [(.agg Ag),.i]),[],0⟩
 a:=λu=>((u.1.1.1,u.1.1.2.1),u.1.2.1)
 o:=λZ a r K=>kv K (.bool) [] 0 r ()
def yJ{X:Type}(a:Kd×Int)(K:Bool->Option X):Option X:=
 (tv a.1).bind λr1=>
 cond (!(decide (r1.2<r1.1)))
 (cond (decide (r1.1=(-4611686018427387904:Int)))
 (cond (decide (r1.2=(4611686018427387904:Int)))
 (K true)
 (K (decide (a.2<=r1.2))))
 (cond (decide (r1.1<=a.2))
 (cond (decide (r1.2=(4611686018427387904:Int)))
 (K true)
 (K (decide (a.2<=r1.2))))
 (K false)))
 (K false)
def Kz:=λa=>yJ a some
def Caa:Spec:=l6.sp Kz
noncomputable def laj:Env:=eE [] (Ra [(164,eU),(143,AJ)]) qN
theorem Daa:OK (4) 145 (l6.sp Kz):=
 fO (env:=laj) (za (cc gU (cc BJ cn))) (fn:=Tryz.f145) (mc:=@yJ) (by intros;simp only[Kz,yJ,nn]) (Ca:=[2])
def Sac:FS (ga×Kd) (ga×Kd)where
 sk:=⟨(cL [(.agg La),(.agg Ag)]),[],0⟩
 a:=λu=>((q3 u.1.1),u.1.2.1.1,u.1.2.1.2.1)
 o:=λZ a r K=>kv K (.Re (cL [(.agg La),(.agg Ag)])) [] 0 ((r.1.1,r.1.2.1,r.1.2.2,()),(r.2.1,r.2.2,()),()) ()
def DS{X:Type}(a:ga×Kd)(K:(ga×Kd)->Option X):Option X:=
 (sD 3).bind λr1=>
 (FE (a.2,r1)).bind λr2=>
 cond a.1.1
 (K ((true,(0,0)),(1,0)))
 (cond (decide (r2.2<r2.1))
 (K ((true,(0,0)),(1,0)))
 (cond (decide (a.1.2.1=(0:Int)))
 ((Kz (r2,a.1.2.2)).bind λr3=>
 cond (!r3)
 (K ((true,(0,0)),(1,0)))
 ((Kn (a.1.2.2,a.1.2.2)).bind λr4=>
 K (a.1,r4)))
 ((Xj ((Ka (a.1.2.2-r2.1)),(Ia a.1.2.1))).bind λr5=>
 (Xj ((Ka (r2.2-a.1.2.2)),(Ia a.1.2.1))).bind λr6=>
 cond (decide ((Ka (r2.2-(Ka r6)))<(Ka (r2.1+(Ka r5)))))
 (K ((true,(0,0)),(1,0)))
 (cond (decide ((Ka (r2.1+(Ka r5)))=(Ka (r2.2-(Ka r6)))))
 ((Li (Ka (r2.1+(Ka r5)))).bind λr7=>
 (Kn ((Ka (r2.1+(Ka r5))),(Ka (r2.1+(Ka r5))))).bind λr8=>
 K ((r7.1,(0,r7.2)),r8))
 ((Kn ((Ka (r2.1+(Ka r5))),(Ka (r2.2-(Ka r6))))).bind λr9=>
 K (a.1,r9))))))
def vM:=λa=>DS a some
def Hag:Spec:=Sac.sp vM
noncomputable def Xan:Env:=eE [] (Ra [(97,X0),(142,Eaa),(124,ek),(144,QB),(143,AJ),(145,Caa),(146,vJ),(117,bq),(127,Zp)]) qN
theorem Iag:OK (5) 96 (Sac.sp vM):=
 fO (env:=Xan) (za (cc Z0 (cc Faa (cc fk (cc SB (cc BJ (cc Daa (cc wJ (cc cq (cc aq cn)))))))))) (fn:=Tryz.f96) (mc:=@DS) (by intros;simp only[vM,DS,nn]) (Ca:=[2,3,4,5])
def Qad:FS (ga×Int) (ga)where
 sk:=⟨(cL [(.agg La),.i]),[],0⟩
 a:=λu=>((q3 u.1.1),u.1.2.1)
 o:=λZ a r K=>kv K (.agg La) [] 0 (r.1,r.2.1,r.2.2,()) ()
def wT{X:Type}(a:ga×Int)(K:ga->Option X):Option X:=
 (sD a.2).bind λr1=>
 (vM (a.1,r1)).bind λr2=>
 K r2.1
def OD:=λa=>wT a some
def Xah:Spec:=Qad.sp OD
noncomputable def Gao:Env:=eE [] (Ra [(97,X0),(96,Hag)]) qN
theorem Yah:OK (6) 50 (Qad.sp OD):=
 fO (env:=Gao) (za (cc Z0 (cc Iag cn))) (fn:=Tryz.f50) (mc:=@wT) (by intros;simp only[OD,wT,nn]) (Ca:=[2,4])
def K7:FS (Int) (Int)where
 sk:=⟨(.cons .i .nil),[],0⟩
 a:=λu=>u.1.1
 o:=λZ a r K=>kv K .i [] 0 r ()
def NQ{X:Type}(a:Int)(K:Int->Option X):Option X:=
 cond (decide ((Ka (a-(14:Int)))=(0:Int)))
 (K 15)
 (cond (decide ((Ka (a-(14:Int)))=(1:Int)))
 (K 14)
 (cond (decide ((Ka (a-(14:Int)))=(2:Int)))
 (K 19)
 (cond (decide ((Ka (a-(14:Int)))=(3:Int)))
 (K 18)
 (cond (decide ((Ka (a-(14:Int)))=(4:Int)))
 (K 17)
 (cond (decide ((Ka (a-(14:Int)))=(5:Int)))
 (K 16)
 (none))))))
def UE:=λa=>NQ a some
def Aab:Spec:=K7.sp UE
noncomputable def eak:Env:=eE [] (Ra []) qN
theorem Bab:OK (1) 100 (K7.sp UE):=
 fO (env:=eak) (za cn) (fn:=Tryz.f100) (mc:=@NQ) (by intros;simp only[UE,NQ,nn])
def Z5:FS (Int×Int×Int) (Bool)where
 sk:=⟨(.cons .i Ag),[],0⟩
 a:=λu=>(u.1.1,u.1.2.1,u.1.2.2.1)
 o:=λZ a r K=>kv K (.bool) [] 0 r ()
def uJ{X:Type}(a:Int×Int×Int)(K:Bool->Option X):Option X:=
 cond (decide (a.1=(14:Int)))
 (K (decide (a.2.1=a.2.2)))
 (cond (decide (a.1=(15:Int)))
 (K (!(decide (a.2.1=a.2.2))))
 (cond (decide (a.1=(16:Int)))
 (K (decide (a.2.1<a.2.2)))
 (cond (decide (a.1=(17:Int)))
 (K (decide (a.2.1<=a.2.2)))
 (cond (decide (a.1=(18:Int)))
 (K (decide (a.2.2<a.2.1)))
 (K (decide (a.2.2<=a.2.1)))))))
def Jz:=λa=>uJ a some
def zaa:Spec:=Z5.sp Jz
noncomputable def jaj:Env:=eE [] (Ra []) qN
theorem Aaa:OK (1) 147 (Z5.sp Jz):=
 fO (env:=jaj) (za cn) (fn:=Tryz.f147) (mc:=@uJ) (by intros;simp only[Jz,uJ,nn])
def Bad:FS (ga×Int) (Bool)where
 sk:=⟨(cL [(.agg La),.i]),[],0⟩
 a:=λu=>((q3 u.1.1),u.1.2.1)
 o:=λZ a r K=>kv K (.bool) [] 0 r ()
def cT{X:Type}(a:ga×Int)(K:Bool->Option X):Option X:=
 cond a.1.1
 (K false)
 (cond (decide (a.2<(-2147483648:Int)))
 (K false)
 (cond (decide ((2147483647:Int)<a.2))
 (K false)
 (cond (decide (a.1.2.1=(0:Int)))
 (K (decide (a.2=a.1.2.2)))
 ((Xj (a.2,(Ia a.1.2.1))).bind λr1=>
 K (decide (r1=(Ia a.1.2.2)))))))
def Yw:=λa=>cT a some
def Cah:Spec:=Bad.sp Yw
noncomputable def xao:Env:=eE [] (Ra [(117,bq)]) qN
theorem Dah:OK (3) 64 (Bad.sp Yw):=
 fO (env:=xao) (za (cc cq cn)) (fn:=Tryz.f64) (mc:=@cT) (by intros;simp only[Yw,cT,nn]) (Ca:=[2])
def V5:FS (Int×Int) (Int)where
 sk:=⟨Rk,[],0⟩
 a:=λu=>(u.1.1,u.1.2.1)
 o:=λZ a r K=>kv K (.int .u64) [] 0 r ()
abbrev Ix:LD (Int) (Int×Int×Int×Int) (Int)where
 sk:=⟨[(1,.v (.int .u64)),(5,.i),(6,.i),(7,.i),(8,.i)],[],[],0,0⟩
 p:=λu=>u.1.1
 t:=λu=>(r3 u.1.2 u.1.t4.1)
 n:=λp t=>((p,(r3 t (t.t3,()))),(),())
 st:=λY p t ki ke=>cond (!(decide (t.2.2.2=(0:Int))))
  (cond (decide (t.2.2.2=(0:Int)))
  (none)
  (ki (t.2.1,(Ka (t.1-(Ka ((Ka (jb t.2.2.1 t.2.2.2)) * t.2.1)))),t.2.2.2,(Ka (t.2.2.1-(Ka ((Ka (jb t.2.2.1 t.2.2.2)) * t.2.2.2)))))))
  (ke (t.1))
 o:=λZ p e K=>so K (.exit 0) ⟨[(1,.v (.int .u64)),(5,.i)],[],[],0,0⟩ ((p,e,()),(),())
 ve:=⟨[1,5,6,7,8],[],[],[]⟩
 pe:=[(.exit 0,⟨[1,5],[],[],[]⟩)]
def tJ{X:Type}(a:Int×Int)(K:Int->Option X):Option X:=
 (Ua (Ix.m a.2) (1,0,(Ka a.1),(Ka a.2))).bind λe1=>
 (Xj (e1,a.2)).bind λr2=>
 K r2
def Iz:=λa=>tJ a some
def waa:Spec:=V5.sp Iz
noncomputable def W5:Env:=eE [] (Ra [(117,bq)]) (qL 2 Ix.q qN)
theorem XP:LL C W5 [] Tryz.f149 35:=λhc=>
 lO hc Ix
theorem xaa:OK (3) 149 (V5.sp Iz):=
 fO (env:=W5) (za (cc cq cn)) (fn:=Tryz.f149) (mc:=@tJ) (by intros;simp only[Iz,tJ,nn]) (hl:=λhc=>(Vi (Ta (XP hc) fc)))
def I7:FS (ga×ga) (ga)where
 sk:=⟨(cL [(.agg La),(.agg La)]),[],0⟩
 a:=λu=>((q3 u.1.1),u.1.2.1.1,(u.1.2.1.2.1,u.1.2.1.2.2.1))
 o:=λZ a r K=>kv K (.agg La) [] 0 (r.1,r.2.1,r.2.2,()) ()
def mK{X:Type}(a:ga×ga)(K:ga->Option X):Option X:=
 cond a.1.1
 (K (true,(0,0)))
 (cond a.2.1
 (K (true,(0,0)))
 (cond (decide (a.1.2.1=(0:Int)))
 (cond (!(decide (a.1.2.1=(0:Int))))
 ((Yw (a.1,a.2.2.2)).bind λr1=>
 cond r1
 (K a.2)
 (K (true,(0,0))))
 ((Yw (a.2,a.1.2.2)).bind λr2=>
 cond r2
 (K a.1)
 (K (true,(0,0)))))
 (cond (decide (a.2.2.1=(0:Int)))
 (cond (!(decide (a.1.2.1=(0:Int))))
 ((Yw (a.1,a.2.2.2)).bind λr3=>
 cond r3
 (K a.2)
 (K (true,(0,0))))
 ((Yw (a.2,a.1.2.2)).bind λr4=>
 cond r4
 (K a.1)
 (K (true,(0,0)))))
 ((Dg ((Ia a.1.2.1),(Ia a.2.2.1))).bind λr5=>
 (dh (Ka (a.1.2.2-a.2.2.2))).bind λr6=>
 cond (decide (r5=(0:Int)))
 (none)
 (cond (!(decide ((zb r6 r5)=(0:Int))))
 (K (true,(0,0)))
 (cond (decide (r5=(0:Int)))
 (none)
 (cond (decide ((1:Int)<(Ia (jb (Ia a.2.2.1) r5))))
 (cond (decide ((Ka r5)=(0:Int)))
 (none)
 (cond (decide (r5=(0:Int)))
 (none)
 ((Xj ((Ka (jb (Ka (a.2.2.2-a.1.2.2)) (Ka r5))),(Ia (jb (Ia a.2.2.1) r5)))).bind λr7=>
 cond (decide (r5=(0:Int)))
 (none)
 (cond (decide (r5=(0:Int)))
 (none)
 (cond (decide ((Ia (jb (Ia a.2.2.1) r5))=(0:Int)))
 (none)
 (cond (decide (r5=(0:Int)))
 (none)
 ((Iz ((zb (Ia (jb (Ia a.1.2.1) r5)) (Ia (jb (Ia a.2.2.1) r5))),(Ia (jb (Ia a.2.2.1) r5)))).bind λr8=>
 cond (decide (r5=(0:Int)))
 (none)
 ((Bv (((Ia ((Ia ((Ia ((Bb r7 (2^min 32 64)) * (Bb r8 (2^min 32 64))))+(Bb (Ia ((Ia ((Bb r7 (2^min 32 64)) * (Ic .u64 r8 4294967295)))+(Bb (Ia ((Ic .u64 r7 4294967295) * (Ic .u64 r8 4294967295))) (2^min 32 64)))) (2^min 32 64))))+(Bb (Ia ((Ic .u64 (Ia ((Ia ((Bb r7 (2^min 32 64)) * (Ic .u64 r8 4294967295)))+(Bb (Ia ((Ic .u64 r7 4294967295) * (Ic .u64 r8 4294967295))) (2^min 32 64)))) 4294967295)+(Ia ((Ic .u64 r7 4294967295) * (Bb r8 (2^min 32 64)))))) (2^min 32 64)))),(Ia (r7 * r8))),(Ia (jb (Ia a.2.2.1) r5)))).bind λr9=>
 cond (decide (r5=(0:Int)))
 (none)
 ((Wj ((Ia ((Ia a.1.2.1) * (Ia (jb (Ia a.2.2.1) r5)))),(Ia ((Ia ((Ia a.1.2.1) * r9))+(Ia a.1.2.2))))).bind λEN=>
 K EN)))))))))
 (cond (decide (r5=(0:Int)))
 (none)
 ((Wj ((Ia ((Ia a.1.2.1) * (Ia (jb (Ia a.2.2.1) r5)))),(Ia ((Ia ((Ia a.1.2.1) * (0:Int)))+(Ia a.1.2.2))))).bind λHR=>
 K HR)))))))))
def Bj:=λa=>mK a some
def zU:Spec:=I7.sp Bj
noncomputable def cak:Env:=eE [] (Ra [(124,ek),(64,Cah),(128,It),(129,Xp),(117,bq),(149,waa),(148,jU),(131,oU),(132,VB)]) qN
theorem AU:OK (6) 102 (I7.sp Bj):=
 fO (env:=cak) (za (cc fk (cc Dah (cc Jt (cc Yp (cc cq (cc xaa (cc kU (cc pU (cc WB cn)))))))))) (fn:=Tryz.f102) (mc:=@mK) (by intros;simp only[Bj,mK,nn]) (Ca:=[2,3,4])
def J7:FS (Y8) (ga×ga)where
 sk:=⟨(cL [.i,(.agg La),(.agg La)]),[],0⟩
 a:=λu=>(u.1.1,(q3 u.1.2.1),u.1.2.2.1.1,(u.1.2.2.1.2.1,u.1.2.2.1.2.2.1))
 o:=λZ a r K=>kv K (.Re (cL [(.agg La),(.agg La)])) [] 0 ((r.1.1,r.1.2.1,r.1.2.2,()),(r.2.1,r.2.2.1,r.t3,()),()) ()
def nK{X:Type}(a:Y8)(K:(ga×ga)->Option X):Option X:=
 cond (decide (a.1<(14:Int)))
 (K (a.2.1,a.2.2))
 (cond (decide ((19:Int)<a.1))
 (K (a.2.1,a.2.2))
 (cond a.2.1.1
 (K ((true,(0,0)),(true,(0,0))))
 (cond a.2.2.1
 (K ((true,(0,0)),(true,(0,0))))
 (cond (decide (a.2.1.2.1=(0:Int)))
 (cond (decide (a.2.2.2.1=(0:Int)))
 ((Jz (a.1,a.2.1.2.2,a.2.2.2.2)).bind λr1=>
 cond (!r1)
 (K ((true,(0,0)),(true,(0,0))))
 (cond (decide (a.1=(14:Int)))
 ((Bj (a.2.1,a.2.2)).bind λr2=>
 K (r2,r2))
 (K (a.2.1,a.2.2))))
 (cond (decide (a.1=(14:Int)))
 ((Bj (a.2.1,a.2.2)).bind λr3=>
 K (r3,r3))
 (K (a.2.1,a.2.2))))
 (cond (decide (a.1=(14:Int)))
 ((Bj (a.2.1,a.2.2)).bind λr4=>
 K (r4,r4))
 (K (a.2.1,a.2.2)))))))
def Kr:=λa=>nK a some
def xab:Spec:=J7.sp Kr
noncomputable def dak:Env:=eE [] (Ra [(124,ek),(147,zaa),(102,zU)]) qN
theorem yab:OK (7) 101 (J7.sp Kr):=
 fO (env:=dak) (za (cc fk (cc Aaa (cc AU cn)))) (fn:=Tryz.f101) (mc:=@nK) (by intros;simp only[Kr,nK,nn]) (Ca:=[4,5,6,7,8])
end
end Go.U
end
