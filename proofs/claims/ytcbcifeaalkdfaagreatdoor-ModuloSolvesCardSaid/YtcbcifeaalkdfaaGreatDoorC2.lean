/- The functions of the program as Lean functions, and that the evaluator says so. -/
import Derived.Test.YtcbcifeaalkdfaaGreatDoorC1
set_option linter.unusedVariables false
set_option linter.unusedSimpArgs false
set_option linter.unusedSectionVars false
open Int renaming tmod→zb,toNat→ia
open List renaming length→fa,set→Wb,replicate→fb
section
set_option maxRecDepth 100000
namespace Go.U
open Go Go.Proofs
noncomputable section
variable {C:V.Callee}
def x7:FS (Int) (Int)where
 sk:=⟨(.cons .i .nil),[],0⟩
 a:=λu=>u.1.1
 o:=λZ a r K=>kv K (.int .u64) [] 0 r ()
def dK{X:Type}(a:Int)(K:Int->Option X):Option X:=
 cond (decide (a<(0:Int)))
 (K (Ia ((Ia (Ka ((0:Int)-(Ka (a+(1:Int))))))+(1:Int))))
 (K (Ia a))
def Kc:=λa=>dK a some
def gk:Spec:=x7.sp Kc
noncomputable def Raj:Env:=eE [] (Ra []) qN
theorem ik:OK (1) 111 (x7.sp Kc):=
 fO (env:=Raj) (za cn) (fn:=Tryz.f111) (mc:=@dK) (by intros;simp only[Kc,dK,nn])
def F7:FS (Unit) (Unit)where
 sk:=⟨.nil,[],0⟩
 a:=λu=>()
 o:=λZ a r K=>kv K (.agg La) [] 0 (true,(0:Int),(0:Int),()) ()
def JQ{X:Type}(a:Unit)(K:Unit->Option X):Option X:=
 K ()
def IQ:=λa=>JQ a some
def zj:Spec:=F7.sp IQ
noncomputable def Zaj:Env:=eE [] (Ra []) qN
theorem Aj:OK (1) 105 (F7.sp IQ):=
 fO (env:=Zaj) (za cn) (fn:=Tryz.f105) (mc:=@JQ) (by intros;simp only[IQ,JQ,nn]) (Ca:=[0])
def T6:FS (Int×Int×Bool) (ga)where
 sk:=⟨GL,[],0⟩
 a:=λu=>(u.1.1,u.1.2.1,u.1.2.2.1)
 o:=λZ a r K=>kv K (.agg La) [] 0 (r.1,r.2.1,r.2.2,()) ()
abbrev aC:PD ((Int×Bool)×Bool×Int×Int) (Bool)where
 sk:=⟨[(1,.v (.int .u64)),(2,.v .bool),(6,.loc 0 0)],[La],[],0,0⟩
 p:=λu=>((u.1.1,u.1.2.1),u.2.1.1.1,u.2.1.1.2.1,u.2.1.1.2.2.1)
 st:=λY p ke=>cond p.1.2
  (ke ((decide (p.1.1<=(2147483648:Int)))))
  (ke (false))
 o:=λZ p e K=>so K (.normal) ⟨[(1,.v (.int .u64)),(2,.v .bool),(6,.loc 0 0),(14,.v .bool)],[La],[],0,0⟩ ((p.1.1,p.1.2,e,()),((p.2.1,p.2.2.1,p.t3,()),()),())
 ve:=⟨[1,2,6],[],[],[]⟩
 pe:=[(.normal,⟨[1,2,6,14],[],[],[]⟩)]
abbrev ZB:PD ((Int×Bool)×Bool×Int×Int) (Bool)where
 sk:=⟨[(1,.v (.int .u64)),(2,.v .bool),(6,.loc 0 0)],[La],[],0,0⟩
 p:=λu=>((u.1.1,u.1.2.1),u.2.1.1.1,u.2.1.1.2.1,u.2.1.1.2.2.1)
 st:=λY p ke=>cond (!p.1.2)
  (ke ((decide (p.1.1<=(2147483647:Int)))))
  (ke (false))
 o:=λZ p e K=>so K (.normal) ⟨[(1,.v (.int .u64)),(6,.loc 0 0),(24,.v .bool)],[La],[],0,0⟩ ((p.1.1,e,()),((p.2.1,p.2.2.1,p.t3,()),()),())
 ve:=⟨[1,2,6],[],[],[]⟩
 pe:=[(.normal,⟨[1,6,24],[],[],[]⟩)]
abbrev YB:PD (Int×Int×Bool×Bool×Int×Int) (Bool)where
 sk:=⟨[(0,.v (.int .u64)),(1,.v (.int .u64)),(2,.v .bool),(6,.loc 0 0)],[La],[],0,0⟩
 p:=λu=>(r3 u.1 (u.2.1.1.1,u.2.1.1.2.1,u.2.1.1.2.2.1))
 st:=λY p ke=>cond p.2.2.1
  (ke ((!(decide (p.2.1=(0:Int))))))
  (ke (false))
 o:=λZ p e K=>so K (.normal) ⟨[(0,.v (.int .u64)),(1,.v (.int .u64)),(6,.loc 0 0),(36,.v .bool)],[La],[],0,0⟩ ((p.1,p.2.1,e,()),((p.t3.1,p.t4.1,p.t5,()),()),())
 ve:=⟨[0,1,2,6],[],[],[]⟩
 pe:=[(.normal,⟨[0,1,6,36],[],[],[]⟩)]
abbrev eC:PD (Int×Int×Bool×Bool×Int×Int) (Int)where
 sk:=⟨[(0,.v (.int .u64)),(1,.v (.int .u64)),(6,.loc 0 0),(36,.v .bool)],[La],[],0,0⟩
 p:=λu=>(r3 u.1 (u.2.1.1.1,u.2.1.1.2.1,u.2.1.1.2.2.1))
 st:=λY p ke=>cond p.2.2.1
  (ke ((Ia (p.1-p.2.1))))
  (ke (p.2.1))
 o:=λZ p e K=>so K (.normal) ⟨[(0,.v (.int .u64)),(1,.v (.int .u64)),(6,.loc 0 0)],[La],[],0,0⟩ ((p.1,e,()),((p.t3.1,p.t4.1,p.t5,()),()),())
 ve:=⟨[0,1,6,36],[],[],[]⟩
 pe:=[(.normal,⟨[0,1,6],[],[],[]⟩)]
abbrev Ox:PD (Int×Int×Bool×Bool×Int×Int) ((List Int))where
 sk:=⟨[(0,.v (.int .u64)),(1,.v (.int .u64)),(6,.loc 0 0),(7,.v .Xa),(41,.v .bool)],[La],[],0,0⟩
 p:=λu=>(u.1.1,u.1.2.1,u.1.t3.1,u.2.1.1.1,u.2.1.1.2.1,u.2.1.1.2.2.1)
 st:=λY p ke=>cond p.2.2.1
  (ask (decide ((fa ([(Ka p.2.1)]:List Int)) * 8<=70368744177664)&&decide ((fa ([(Ka p.2.1)]:List Int))<9223372036854775808)) (ke (([(Ka p.2.1)]:List Int))))
  (ke ([]))
 o:=λZ p e K=>so K (.normal) ⟨[(0,.v (.int .u64)),(1,.v (.int .u64)),(6,.loc 0 0),(7,.v (.all 0))],[La],[.cells .i],0,0⟩ ((p.1,p.2.1,(),()),((p.t3.1,p.t4.1,p.t5,()),()),e,())
 ve:=⟨[0,1,6,7,41],[],[],[]⟩
 pe:=[(.normal,⟨[0,1,6,7],[(7,(.own (.int .i64)))],[],[]⟩)]
abbrev Nx:PD (Int×Int×Bool×Bool×Int×Int×(List Int)) ((List Int))where
 sk:=⟨[(0,.v (.int .u64)),(1,.v (.int .u64)),(6,.loc 0 0),(7,.v (.all 0)),(50,.v .bool)],[La],[.cells .i],0,0⟩
 p:=λu=>(u.1.1,u.1.2.1,u.1.t3.1,(r3 u.2.1.1 u.2.2.1))
 st:=λY p ke=>cond p.2.2.1
  (ask (decide (((fa p.2.2.2.2.2.2)+(fa ([(Ka ((0:Int)-(Ka (Ia (p.1-p.2.1)))))]:List Int))) * 8<=70368744177664)&&decide (((fa p.2.2.2.2.2.2)+(fa ([(Ka ((0:Int)-(Ka (Ia (p.1-p.2.1)))))]:List Int)))<9223372036854775808)) (ke ((p.2.2.2.2.2.2++([(Ka ((0:Int)-(Ka (Ia (p.1-p.2.1)))))]:List Int)))))
  (ke (p.2.2.2.2.2.2))
 o:=λZ p e K=>so K (.normal) ⟨[(0,.v (.int .u64)),(1,.v (.int .u64)),(6,.loc 0 0),(7,.v (.all 0))],[La],[.cells .i],0,0⟩ ((p.1,p.2.1,(),()),((r3 p.t3 ()),()),e,())
 ve:=⟨[0,1,6,7,50],[],[],[]⟩
 pe:=[(.normal,⟨[0,1,6,7],[],[],[]⟩)]
abbrev Kx:PD (Int×Int×Bool×Int×Int×(List Int)) (Bool)where
 sk:=⟨[(0,.v (.int .u64)),(1,.v (.int .u64)),(6,.loc 0 0),(7,.v (.all 0))],[La],[.cells .i],0,0⟩
 p:=λu=>(u.1.1,u.1.2.1,(r3 u.2.1.1 u.2.2.1))
 st:=λY p ke=>cond (decide ((nt (fa p.2.2.2.2.2))=(1:Int)))
  (ask (V.ua 0 (fa p.2.2.2.2.2)) (cond (decide ((0:Int)<=(gx p.2.2.2.2.2 0 (0:Int))))
  (ask (V.ua 0 (fa p.2.2.2.2.2)) (ke ((decide (p.1<=(Ia ((2147483647:Int)-(Ia (gx p.2.2.2.2.2 0 (0:Int))))))))))
  (ke (false))))
  (ke (false))
 o:=λZ p e K=>so K (.normal) ⟨[(0,.v (.int .u64)),(1,.v (.int .u64)),(6,.loc 0 0),(7,.v (.all 0)),(76,.v .bool)],[La],[.cells .i],0,0⟩ ((p.1,p.2.1,(),e,()),((r3 p.2.2 ()),()),p.t5,())
 ve:=⟨[0,1,6,7],[],[],[]⟩
 pe:=[(.normal,⟨[0,1,6,7,76],[],[],[]⟩)]
abbrev Mx:PD (Int×Int×Bool×Bool×Int×Int×(List Int)) ((List Int))where
 sk:=⟨[(0,.v (.int .u64)),(1,.v (.int .u64)),(6,.loc 0 0),(7,.v (.all 0)),(76,.v .bool)],[La],[.cells .i],0,0⟩
 p:=λu=>(u.1.1,u.1.2.1,u.1.t3.1,(r3 u.2.1.1 u.2.2.1))
 st:=λY p ke=>cond p.2.2.1
  (ask (decide (((fa p.2.2.2.2.2.2)+(fa ([0]:List Int))) * 8<=70368744177664)&&decide (((fa p.2.2.2.2.2.2)+(fa ([0]:List Int)))<9223372036854775808)) (ke ((p.2.2.2.2.2.2++([0]:List Int)))))
  (ke (p.2.2.2.2.2.2))
 o:=λZ p e K=>so K (.normal) ⟨[(0,.v (.int .u64)),(1,.v (.int .u64)),(6,.loc 0 0),(7,.v (.all 0))],[La],[.cells .i],0,0⟩ ((p.1,p.2.1,(),()),((r3 p.t3 ()),()),e,())
 ve:=⟨[0,1,6,7,76],[],[],[]⟩
 pe:=[(.normal,⟨[0,1,6,7],[],[],[]⟩)]
abbrev Jx:PD (Int×Int×Bool×Int×Int×(List Int)) (Bool)where
 sk:=⟨[(0,.v (.int .u64)),(1,.v (.int .u64)),(6,.loc 0 0),(7,.v (.all 0))],[La],[.cells .i],0,0⟩
 p:=λu=>(u.1.1,u.1.2.1,(r3 u.2.1.1 u.2.2.1))
 st:=λY p ke=>cond (decide ((nt (fa p.2.2.2.2.2))=(1:Int)))
  (ask (V.ua 0 (fa p.2.2.2.2.2)) (cond (decide ((gx p.2.2.2.2.2 0 (0:Int))<(0:Int)))
  (ask (V.ua 0 (fa p.2.2.2.2.2)) ((Kc (gx p.2.2.2.2.2 0 (0:Int))).bind λr1=>
  ke ((decide (p.1<=(Ia ((2147483648:Int)-r1)))))))
  (ke (false))))
  (ke (false))
 o:=λZ p e K=>so K (.normal) ⟨[(0,.v (.int .u64)),(1,.v (.int .u64)),(6,.loc 0 0),(7,.v (.all 0)),(97,.v .bool)],[La],[.cells .i],0,0⟩ ((p.1,p.2.1,(),e,()),((r3 p.2.2 ()),()),p.t5,())
 ve:=⟨[0,1,6,7],[],[],[]⟩
 pe:=[(.normal,⟨[0,1,6,7,97],[],[],[]⟩)]
abbrev Lx:PD (Int×Int×Bool×Bool×Int×Int×(List Int)) ((List Int))where
 sk:=⟨[(0,.v (.int .u64)),(1,.v (.int .u64)),(6,.loc 0 0),(7,.v (.all 0)),(97,.v .bool)],[La],[.cells .i],0,0⟩
 p:=λu=>(u.1.1,u.1.2.1,u.1.t3.1,(r3 u.2.1.1 u.2.2.1))
 st:=λY p ke=>cond p.2.2.1
  (ask (decide (((fa p.2.2.2.2.2.2)+(fa ([0]:List Int))) * 8<=70368744177664)&&decide (((fa p.2.2.2.2.2.2)+(fa ([0]:List Int)))<9223372036854775808)) (ke ((p.2.2.2.2.2.2++([0]:List Int)))))
  (ke (p.2.2.2.2.2.2))
 o:=λZ p e K=>so K (.normal) ⟨[(0,.v (.int .u64)),(1,.v (.int .u64)),(6,.loc 0 0),(7,.v (.all 0))],[La],[.cells .i],0,0⟩ ((p.1,p.2.1,(),()),((r3 p.t3 ()),()),e,())
 ve:=⟨[0,1,6,7,97],[],[],[]⟩
 pe:=[(.normal,⟨[0,1,6,7],[],[],[]⟩)]
def SJ{X:Type}(a:Int×Int×Bool)(K:ga->Option X):Option X:=
 cond (decide (a.1=(0:Int)))
 ((aC.m (a.2,false,0,0)).bind λe1=>
 cond e1
 (K (false,(0,(Ka ((0:Int)-(Ka a.2.1))))))
 ((ZB.m (a.2,false,0,0)).bind λe2=>
 cond e2
 (K (false,(0,(Ka a.2.1))))
 (K (true,(0,0)))))
 (cond (decide (a.1=(0:Int)))
 (none)
 ((YB.m (a.1,(zb a.2.1 a.1),a.2.2,false,0,0)).bind λe3=>
 (eC.m (a.1,(zb a.2.1 a.1),e3,false,0,0)).bind λe4=>
 (Ox.m (a.1,e4,(decide (e4<=(2147483647:Int))),false,0,0)).bind λe5=>
 (Nx.m (a.1,e4,(decide ((Ia (a.1-e4))<=(2147483648:Int))),false,0,0,e5)).bind λe6=>
 (Kx.m (a.1,e4,false,0,0,e6)).bind λe7=>
 (Mx.m (a.1,e4,e7,false,0,0,e6)).bind λe8=>
 (Jx.m (a.1,e4,false,0,0,e8)).bind λe9=>
 (Lx.m (a.1,e4,e9,false,0,0,e8)).bind λCu=>
 cond (decide ((nt (fa Cu))=(0:Int)))
 (K (true,(0,0)))
 (cond (decide ((nt (fa Cu))=(1:Int)))
 (ask (V.ua 0 (fa Cu)) (K (false,(0,(gx Cu 0 (0:Int))))))
 (K (false,((Ka a.1),(Ka e4)))))))
def Ln:=λa=>SJ a some
def XB:Spec:=T6.sp Ln
noncomputable def Bm:Env:=eE [1000009,1000012,1000014,1000016,1000018,2000002,2000004,2000008,2000015,2000017] (Ra [(105,zj),(111,gk)]) (qL 2000002 aC.q (qL 2000004 ZB.q (qL 2000008 YB.q (qL 1000009 eC.q (qL 1000012 Ox.q (qL 1000014 Nx.q (qL 2000015 Kx.q (qL 1000016 Mx.q (qL 2000017 Jx.q (qL 1000018 Lx.q qN))))))))))
theorem oQ:LP C Bm [6] Tryz.f123 69:=λhc=>
 pO 2000002 hc aC
theorem nQ:LP C Bm [6] Tryz.f123 149:=λhc=>
 pO 2000004 hc ZB
theorem mQ:LP C Bm [6] Tryz.f123 39:=λhc=>
 pO 2000008 hc YB
theorem pQ:LP C Bm [6] Tryz.f123 55:=λhc=>
 pO 1000009 hc eC
theorem UM:LP C Bm [6] Tryz.f123 223:=λhc=>
 pO 1000012 hc Ox
theorem TM:LP C Bm [6] Tryz.f123 447:=λhc=>
 pO 1000014 hc Nx
theorem QM:LP C Bm [6] Tryz.f123 639:=λhc=>
 pO 2000015 hc Kx
theorem SM:LP C Bm [6] Tryz.f123 895:=λhc=>
 pO 1000016 hc Mx
theorem PM:LP C Bm [6] Tryz.f123 1279:=λhc=>
 pO 2000017 hc Jx
theorem RM:LP C Bm [6] Tryz.f123 1791:=λhc=>
 pO 1000018 hc Lx
theorem bC:OK (2) 123 (T6.sp Ln):=
 fO (env:=Bm) (za (cc Aj (cc ik cn))) (fn:=Tryz.f123) (mc:=@SJ) (by intros;simp only[Ln,SJ,nn]) (Ca:=[6]) (hl:=λhc=>(Vi (Ta (oQ hc) (Ta (nQ hc) (Ta (mQ hc) (Ta (pQ hc) (Ta (UM hc) (Ta (TM hc) (Ta (QM hc) (Ta (SM hc) (Ta (PM hc) (Ta (RM hc) fc))))))))))))
def tad:FS (Int×Int) (ga)where
 sk:=⟨Ag,[],0⟩
 a:=λu=>(u.1.1,u.1.2.1)
 o:=λZ a r K=>kv K (.agg La) [] 0 (r.1,r.2.1,r.2.2,()) ()
def ZS{X:Type}(a:Int×Int)(K:ga->Option X):Option X:=
 (Kc a.1).bind λr1=>
 (Kc a.2).bind λr2=>
 (Ln (r1,r2,(decide (a.2<(0:Int))))).bind λr3=>
 K r3
def Yi:=λa=>ZS a some
def kz:Spec:=tad.sp Yi
noncomputable def sao:Env:=eE [] (Ra [(111,gk),(123,XB)]) qN
theorem lz:OK (3) 71 (tad.sp Yi):=
 fO (env:=sao) (za (cc ik (cc bC cn))) (fn:=Tryz.f71) (mc:=@ZS) (by intros;simp only[Yi,ZS,nn]) (Ca:=[4])
def iad:FS (ga) (Bool)where
 sk:=⟨(.cons (.agg La) .nil),[],0⟩
 a:=λu=>(q3 u.1.1)
 o:=λZ a r K=>kv K (.bool) [] 0 r ()
def xM{X:Type}(a:ga)(K:Bool->Option X):Option X:=
 cond a.1
 (cond (decide (a.2.1=(0:Int)))
 (K (decide (a.2.2=(0:Int))))
 (K false))
 (cond (decide ((0:Int)<=a.2.1))
 ((Yi (a.2.1,a.2.2)).bind λr1=>
 K ((a.1==r1.1)&&((decide (a.2.1=r1.2.1))&&((decide (a.2.2=r1.2.2))&&true))))
 (K false))
def VA:=λa=>xM a some
def kah:Spec:=iad.sp VA
noncomputable def mao:Env:=eE [] (Ra [(71,kz)]) qN
theorem lah:OK (4) 82 (iad.sp VA):=
 fO (env:=mao) (za (cc lz cn)) (fn:=Tryz.f82) (mc:=@xM) (by intros;simp only[VA,xM,nn]) (Ca:=[1])
def Xad:FS ((List ga)×Int) (Bool)where
 sk:=⟨(cL [(.lit Ma),.i]),[],0⟩
 a:=λu=>(u.1.1,u.1.2.1)
 o:=λZ a r K=>kv K (.bool) [] 0 r ()
abbrev Ir:LD (((List ga)×Int)) (Int) ((Unit) ⊕ (Unit))where
 sk:=⟨[(0,.v (.lit Ma)),(1,.i),(5,.i)],[],[],0,0⟩
 p:=λu=>(u.1.1,u.1.2.1)
 t:=λu=>u.1.2.2.1
 n:=λp t=>((p.1,p.2,t,()),(),())
 st:=λY p t ki ke=>cond (decide (t<p.2))
  (ask (V.ua t (fa p.1)) (cond (gx p.1 (ia t) Aa).1
  (ke (.inl ()))
  (ask (V.ua t (fa p.1)) ((VA (gx p.1 (ia t) Aa)).bind λr1=>
  cond (!r1)
  (ke (.inl ()))
  (ki ((Ka (t+(1:Int)))))))))
  (ke (.inr (())))
 o:=λZ p e K=>Sum.elim (λe=>so K (.ret) ⟨[(4,.v .bool)],[],[],0,0⟩ ((false,()),(),())) (λe=>so K (.exit 0) ⟨[],[],[],0,0⟩ ((),(),())) e
 ve:=⟨[0,1,5],[],[],[]⟩
 pe:=[(.ret,⟨[4],[],[],[]⟩),(.exit 0,⟨[],[],[],[]⟩)]
def HM{X:Type}(a:(List ga)×Int)(K:Bool->Option X):Option X:=
 cond (!(decide ((nt (fa a.1))=a.2)))
 (K false)
 ((Ua (Ir.m a) 0).bind λe1=>
 Sum.elim (λe2=>K false)
 (λe3=>K true) e1)
def xx:=λa=>HM a some
def eai:Spec:=Xad.sp xx
noncomputable def Yad:Env:=eE [] (Ra [(82,kah)]) (qL 4 Ir.q qN)
theorem BW:LL C Yad [] Tryz.f44 75:=λhc=>
 lO hc Ir
theorem fai:OK (5) 44 (Xad.sp xx):=
 fO (env:=Yad) (za (cc lah cn)) (fn:=Tryz.f44) (mc:=@HM) (by intros;simp only[xx,HM,nn]) (hl:=λhc=>(Vi (Ta (BW hc) fc)))
def Aae:FS (Ba×Ga) (Bool)where
 sk:=⟨(cL [(.agg Va),(.agg Mb)]),[],0⟩
 a:=λu=>((q8 u.1.1),u.1.2.1.1,(u.1.2.1.2.1,u.1.2.1.2.2.1))
 o:=λZ a r K=>kv K (.bool) [] 0 r ()
def BH{X:Type}(a:Ba×Ga)(K:Bool->Option X):Option X:=
 cond (!a.2.1)
 (cond (decide ((nt (fa a.2.2.1))=(0:Int)))
 (K (decide ((nt (fa a.2.2.2))=(0:Int))))
 (K false))
 ((xx (a.2.2.1,(nt (fa a.1.2.2.2.2.2.1)))).bind λr1=>
 cond r1
 ((xx (a.2.2.2,(nt (fa a.1.2.2.2.2.2.2.1)))).bind λr2=>
 K r2)
 (K false))
def Au:=λa=>BH a some
def Kaj:Spec:=Aae.sp Au
noncomputable def Sao:Env:=eE [] (Ra [(44,eai)]) qN
theorem Laj:OK (6) 11 (Aae.sp Au):=
 fO (env:=Sao) (za (cc fai cn)) (fn:=Tryz.f11) (mc:=@BH) (by intros;simp only[Au,BH,nn]) (Ca:=[2,3])
def tae:FS (Y1) (Bool)where
 sk:=⟨(cL [(.agg Va),(.lit Rc)]),[],0⟩
 a:=λu=>((q8 u.1.1),u.1.2.1)
 o:=λZ a r K=>kv K (.bool) [] 0 r ()
abbrev rE:LD ((List Ga)×Ba) (Int) ((Unit) ⊕ (Unit))where
 sk:=⟨[(1,.v (.lit Rc)),(2,.loc 0 0),(5,.i)],[Va],[],0,0⟩
 p:=λu=>(u.1.1,u.2.1.1.1,(q7 u.2.1.1.2))
 t:=λu=>u.1.2.1
 n:=λp t=>((p.1,t,()),((r7 p.2 (p.t8,())),()),())
 st:=λY p t ki ke=>cond (decide (t<(nt (fa p.1))))
  (ask (V.ua t (fa p.1)) ((Au (p.2,(gx p.1 (ia t) Kb))).bind λr1=>
  cond (!r1)
  (ke (.inl ()))
  (ki ((Ka (t+(1:Int)))))))
  (ke (.inr (())))
 o:=λZ p e K=>Sum.elim (λe=>so K (.ret) ⟨[(4,.v .bool)],[],[],0,0⟩ ((false,()),(),())) (λe=>so K (.exit 0) ⟨[],[],[],0,0⟩ ((),(),())) e
 ve:=⟨[1,2,5],[],[],[]⟩
 pe:=[(.ret,⟨[4],[],[],[]⟩),(.exit 0,⟨[],[],[],[]⟩)]
def cU{X:Type}(a:Y1)(K:Bool->Option X):Option X:=
 (Ua (rE.m (a.2,a.1)) 0).bind λe1=>
 Sum.elim (λe2=>K false)
 (λe3=>K true) e1
def qE:=λa=>cU a some
def Qai:Spec:=tae.sp qE
noncomputable def uae:Env:=eE [] (Ra [(11,Kaj)]) (qL 2 rE.q qN)
theorem mX:LL C uae [2] Tryz.f20 37:=λhc=>
 lO hc rE
theorem Rai:OK (7) 20 (tae.sp qE):=
 fO (env:=uae) (za (cc Laj cn)) (fn:=Tryz.f20) (mc:=@cU) (by intros;simp only[qE,cU,nn]) (Ca:=[2]) (hl:=λhc=>(Vi (Ta (mX hc) fc)))
def Wad:FS (Unit) (Y2)where
 sk:=⟨.nil,[],0⟩
 a:=λu=>()
 o:=λZ a r K=>kv K (.agg Va) [] 0 (r.1,(0:Int),(3:Int),(0:Int),(r3 r.2 (r.t4,()))) ()
def U3{X:Type}(a:Unit)(K:Y2->Option X):Option X:=
 K (([(17,(0,(0,(0,(0,(0,(1,(-1)))))))),(1,(1,(0,(0,(2,(0,(2,(-1)))))))),(4,(2,(0,(1,(0,(1,(3,(-1)))))))),(13,(0,(2,(0,(0,(0,(4,(-1)))))))),(18,(0,(0,(0,(0,(0,(0,(-1))))))))]:List Lb),[],([((str [120]),(3,0))]:List Ul),[],([(0,0),(0,2)]:List Kd))
def S3:=λa=>U3 a some
def cai:Spec:=Wad.sp S3
noncomputable def Jao:Env:=eE [] (Ra []) qN
theorem dai:OK (1) 45 (Wad.sp S3):=
 fO (env:=Jao) (za cn) (fn:=Tryz.f45) (mc:=@U3) (by intros;simp only[S3,U3,nn]) (Ca:=[0]) (sh:=(.agg [(.lit Vd),.any,.any,.any,(.lit Ni),(.lit pn),(.lit Ni),(.lit bu)])) (fz:=true)
def S6:FS (Unit) (Unit)where
 sk:=⟨.nil,[],0⟩
 a:=λu=>()
 o:=λZ a r K=>kv K (.agg La) [] 0 (true,(0:Int),(0:Int),()) ()
def lQ{X:Type}(a:Unit)(K:Unit->Option X):Option X:=
 K ()
def kQ:=λa=>lQ a some
def ek:Spec:=S6.sp kQ
noncomputable def Iaj:Env:=eE [] (Ra []) qN
theorem fk:OK (1) 124 (S6.sp kQ):=
 fO (env:=Iaj) (za cn) (fn:=Tryz.f124) (mc:=@lQ) (by intros;simp only[kQ,lQ,nn]) (Ca:=[0])
def Q6:FS (Int) (Bool×Int)where
 sk:=⟨(.cons .i .nil),[],0⟩
 a:=λu=>u.1.1
 o:=λZ a r K=>kv K (.agg La) [] 0 (r.1,(0:Int),r.2,()) ()
def QJ{X:Type}(a:Int)(K:(Bool×Int)->Option X):Option X:=
 cond (decide (a<(-2147483648:Int)))
 (K (true,0))
 (cond (decide ((2147483647:Int)<a))
 (K (true,0))
 (K (false,a)))
def Li:=λa=>QJ a some
def Zp:Spec:=Q6.sp Li
noncomputable def Gaj:Env:=eE [] (Ra [(124,ek)]) qN
theorem aq:OK (2) 127 (Q6.sp Li):=
 fO (env:=Gaj) (za (cc fk cn)) (fn:=Tryz.f127) (mc:=@QJ) (by intros;simp only[Li,QJ,nn]) (Ca:=[2])
def N6:FS (Int) (Int)where
 sk:=⟨(.cons .i .nil),[],0⟩
 a:=λu=>u.1.1
 o:=λZ a r K=>kv K (.int .u64) [] 0 r ()
def NJ{X:Type}(a:Int)(K:Int->Option X):Option X:=
 cond (decide (a<(0:Int)))
 (K (Ia ((0:Int)-(Ia a))))
 (K (Ia a))
def dh:=λa=>NJ a some
def Xp:Spec:=N6.sp dh
noncomputable def Faj:Env:=eE [] (Ra []) qN
theorem Yp:OK (1) 129 (N6.sp dh):=
 fO (env:=Faj) (za cn) (fn:=Tryz.f129) (mc:=@NJ) (by intros;simp only[dh,NJ,nn])
def j7:FS (Int×Int) (Int)where
 sk:=⟨(cL [.i,(.int .u64)]),[],0⟩
 a:=λu=>(u.1.1,u.1.2.1)
 o:=λZ a r K=>kv K (.int .u64) [] 0 r ()
def XJ{X:Type}(a:Int×Int)(K:Int->Option X):Option X:=
 (dh a.1).bind λr1=>
 cond (decide (a.2=(0:Int)))
 (none)
 (cond (decide (a.1<(0:Int)))
 (cond (decide ((0:Int)<(zb r1 a.2)))
 (K (Ia (a.2-(zb r1 a.2))))
 (K (zb r1 a.2)))
 (K (zb r1 a.2)))
def Xj:=λa=>XJ a some
def bq:Spec:=j7.sp Xj
noncomputable def Oaj:Env:=eE [] (Ra [(129,Xp)]) qN
theorem cq:OK (2) 117 (j7.sp Xj):=
 fO (env:=Oaj) (za (cc Yp cn)) (fn:=Tryz.f117) (mc:=@XJ) (by intros;simp only[Xj,XJ,nn])
def J6:FS (Int×Int) (ga)where
 sk:=⟨Rk,[],0⟩
 a:=λu=>(u.1.1,u.1.2.1)
 o:=λZ a r K=>kv K (.agg La) [] 0 (r.1,r.2.1,r.2.2,()) ()
def KJ{X:Type}(a:Int×Int)(K:ga->Option X):Option X:=
 (Xj ((-2147483648),a.1)).bind λr1=>
 cond (decide (a.2<r1))
 (cond (decide ((4294967295:Int)<(Ia (a.2+(Ia (a.1-r1))))))
 (K (true,(0,0)))
 (cond (decide ((Ia (Ka ((2147483647:Int)-(Ka ((-2147483648:Int)+(Ka (Ia (a.2+(Ia (a.1-r1))))))))))<a.1))
 (K (false,(0,(Ka ((-2147483648:Int)+(Ka (Ia (a.2+(Ia (a.1-r1))))))))))
 (K (false,((Ka a.1),(Ka a.2))))))
 (cond (decide ((4294967295:Int)<(Ia (a.2-r1))))
 (K (true,(0,0)))
 (cond (decide ((Ia (Ka ((2147483647:Int)-(Ka ((-2147483648:Int)+(Ka (Ia (a.2-r1))))))))<a.1))
 (K (false,(0,(Ka ((-2147483648:Int)+(Ka (Ia (a.2-r1))))))))
 (K (false,((Ka a.1),(Ka a.2))))))
def Wj:=λa=>KJ a some
def VB:Spec:=J6.sp Wj
noncomputable def Aaj:Env:=eE [] (Ra [(117,bq),(124,ek)]) qN
theorem WB:OK (3) 132 (J6.sp Wj):=
 fO (env:=Aaj) (za (cc cq (cc fk cn))) (fn:=Tryz.f132) (mc:=@KJ) (by intros;simp only[Wj,KJ,nn]) (Ca:=[4])
def U6:FS (Int×Int) (ga)where
 sk:=⟨Ag,[],0⟩
 a:=λu=>(u.1.1,u.1.2.1)
 o:=λZ a r K=>kv K (.agg La) [] 0 (r.1,r.2.1,r.2.2,()) ()
def IE{X:Type}(a:Int×Int)(K:ga->Option X):Option X:=
 cond (decide (a.1=(0:Int)))
 ((Li a.2).bind λr1=>
 K (r1.1,(0,r1.2)))
 ((dh a.1).bind λr2=>
 (dh a.1).bind λr3=>
 (Xj (a.2,r3)).bind λr4=>
 (Wj (r2,r4)).bind λr5=>
 K r5)
def Cm:=λa=>IE a some
def TJ:Spec:=U6.sp Cm
noncomputable def Jaj:Env:=eE [] (Ra [(127,Zp),(129,Xp),(117,bq),(132,VB)]) qN
theorem UJ:OK (4) 122 (U6.sp Cm):=
 fO (env:=Jaj) (za (cc aq (cc Yp (cc cq (cc WB cn))))) (fn:=Tryz.f122) (mc:=@IE) (by intros;simp only[Cm,IE,nn]) (Ca:=[4])
def vad:FS (Int) (ga)where
 sk:=⟨(.cons .i .nil),[],0⟩
 a:=λu=>u.1.1
 o:=λZ a r K=>kv K (.agg La) [] 0 (r.1,r.2.1,r.2.2,()) ()
def AM{X:Type}(a:Int)(K:ga->Option X):Option X:=
 (Cm (0,a)).bind λr1=>
 K r1
def Gr:=λa=>AM a some
def V1:Spec:=vad.sp Gr
noncomputable def uao:Env:=eE [] (Ra [(122,TJ)]) qN
theorem W1:OK (5) 70 (vad.sp Gr):=
 fO (env:=uao) (za (cc UJ cn)) (fn:=Tryz.f70) (mc:=@AM) (by intros;simp only[Gr,AM,nn]) (Ca:=[2])
def jae:FS (Ba) (Y3)where
 sk:=⟨(.cons (.agg Va) .nil),[],0⟩
 a:=λu=>(q8 u.1.1)
 o:=λZ a r K=>kv K (.agg Mb) [] 0 (true,r.1,r.2,()) ()
abbrev mE:LD ((List Ul)×Int×Ba×Bool×Bool) (Int×(List ga)) ((List ga))where
 sk:=⟨[(1,.loc 0 0),(2,.loc 1 0),(3,.loc 2 0),(10,.v (.lit pn)),(11,.i),(12,.i)],[Va,(cL [.bool,.Xa,.Xa]),(cL [.bool,(.all 0),.Xa])],[.cells Ma],0,0⟩
 p:=λu=>(u.1.1,u.1.2.1,(q8 u.2.1.1),u.2.1.2.1.1,u.2.1.2.2.1.1)
 t:=λu=>(u.1.2.2.1,u.2.2.1)
 n:=λp t=>((p.1,p.2.1,t.1,()),((r7 p.2.2.1 (p.2.2.1.t7,())),(p.t3.1,(),(),()),(p.t4,(),(),()),()),t.2,())
 st:=λY p t ki ke=>cond (decide (t.1<p.2.1))
  (ask (V.ua t.1 (fa p.1)) ((Gr (gx p.1 (ia t.1) ud).2.2).bind λr1=>
  ask (decide (((fa t.2)+(fa ([r1]:List ga))) * 24<=70368744177664)&&decide (((fa t.2)+(fa ([r1]:List ga)))<9223372036854775808)) (ki ((Ka (t.1+(1:Int))),(t.2++([r1]:List ga))))))
  (ke (t.2))
 o:=λZ p e K=>so K (.exit 0) ⟨[(1,.loc 0 0),(2,.loc 1 0),(3,.loc 2 0)],[Va,(cL [.bool,.Xa,.Xa]),(cL [.bool,(.all 0),.Xa])],[.cells Ma],0,0⟩ ((),((r7 p.2.2.1 (p.2.2.1.t7,())),(p.t3.1,(),(),()),(p.t4,(),(),()),()),e,())
 ve:=⟨[1,2,3,10,11,12],[],[(2,[.any,(.own Ma),.any])],[]⟩
 pe:=[(.exit 0,⟨[1,2,3],[],[],[]⟩)]
abbrev lE:LD ((List Yk)×Int×Bool×Bool×(List ga)) (Int×(List ga)) ((List ga))where
 sk:=⟨[(2,.loc 0 0),(3,.loc 1 0),(26,.v (.lit Ni)),(27,.i),(28,.i)],[(cL [.bool,.Xa,.Xa]),(cL [.bool,(.all 0),(.all 1)])],[.cells Ma,.cells Ma],0,0⟩
 p:=λu=>(u.1.1,u.1.2.1,u.2.1.1.1,u.2.1.2.1.1,u.2.2.1)
 t:=λu=>(u.1.2.2.1,u.t3.1)
 n:=λp t=>((p.1,p.2.1,t.1,()),((p.2.2.1,(),(),()),(p.t3.1,(),(),()),()),p.t4,t.2,())
 st:=λY p t ki ke=>cond (decide (t.1<p.2.1))
  (ask (V.ua t.1 (fa p.1)) ((Gr (gx p.1 (ia t.1) Ob).2.2.2).bind λr1=>
  ask (decide (((fa t.2)+(fa ([r1]:List ga))) * 24<=70368744177664)&&decide (((fa t.2)+(fa ([r1]:List ga)))<9223372036854775808)) (ki ((Ka (t.1+(1:Int))),(t.2++([r1]:List ga))))))
  (ke (t.2))
 o:=λZ p e K=>so K (.exit 2) ⟨[(2,.loc 0 0),(3,.loc 1 0)],[(cL [.bool,.Xa,.Xa]),(cL [.bool,(.all 0),(.all 1)])],[.cells Ma,.cells Ma],0,0⟩ ((),((p.2.2.1,(),(),()),(p.t3.1,(),(),()),()),p.t4,e,())
 ve:=⟨[2,3,26,27,28],[],[(1,[.any,.any,(.own Ma)])],[]⟩
 pe:=[(.exit 2,⟨[2,3],[],[],[]⟩)]
def QT{X:Type}(a:Ba)(K:Y3->Option X):Option X:=
 (Ua (mE.m (a.2.2.2.2.2.1,(nt (fa a.2.2.2.2.2.1)),a,false,true)) (0,[])).bind λe1=>
 (Ua (lE.m (a.2.2.2.2.2.2.1,(nt (fa a.2.2.2.2.2.2.1)),false,true,e1)) (0,[])).bind λe2=>
 K (e1,e2)
def kE:=λa=>QT a some
def F4:Spec:=jae.sp kE
noncomputable def K4:Env:=eE [] (Ra [(70,V1)]) (qL 3 mE.q (qL 8 lE.q qN))
theorem YW:LL C K4 [1,2,3,5,7] Tryz.f32 75:=λhc=>
 lO hc mE
theorem XW:LL C K4 [1,2,3,5,7] Tryz.f32 151:=λhc=>
 lO hc lE
theorem I4:OK (6) 32 (jae.sp kE):=
 fO (env:=K4) (za (cc W1 cn)) (fn:=Tryz.f32) (mc:=@QT) (by intros;simp only[kE,QT,nn]) (Ca:=[1,2,3,5,7]) (sh:=(.agg [.any,(.lit Ma),(.lit Ma)])) (fz:=true) (hl:=λhc=>(Vi (Ta (YW hc) (Ta (XW hc) fc))))
def L5:FS ((List Int)) ((List Int))where
 sk:=⟨(.cons (.all 0) .nil),[.cells .i],0⟩
 a:=λu=>u.2.1
 o:=λZ a r K=>kv K (.Re .nil) [.cells .i] 0 () (r,())
abbrev Dx:LD (Unit) (Int×Int×(List Int)) ((List Int))where
 sk:=⟨[(0,.v (.all 0)),(2,.i),(3,.i)],[],[.cells .i],0,1⟩
 p:=λu=>()
 t:=λu=>(u.1.2.1,u.1.2.2.1,u.2.2.1)
 n:=λp t=>(((),t.1,t.2.1,()),(),t.2.2,())
 st:=λY p t ki ke=>cond (decide (t.1<t.2.1))
  (ask (V.ua t.2.1 (fa t.2.2)) (ask (V.ua t.1 (fa t.2.2)) (ask (V.ua t.1 (fa t.2.2)) (ask (V.ua t.2.1 (fa (Wb t.2.2 (ia t.1) (gx t.2.2 (ia t.2.1) (0:Int))))) (ki ((Ka (t.1+(1:Int))),(Ka (t.2.1-(1:Int))),(Wb (Wb t.2.2 (ia t.1) (gx t.2.2 (ia t.2.1) (0:Int))) (ia t.2.1) (gx t.2.2 (ia t.1) (0:Int)))))))))
  (ke (t.2.2))
 o:=λZ p e K=>so K (.exit 0) ⟨[],[],[.cells .i],0,1⟩ ((),(),e,())
 ve:=⟨[0,2,3],[],[],[]⟩
 pe:=[(.exit 0,⟨[],[],[],[]⟩)]
def mJ{X:Type}(a:(List Int))(K:(List Int)->Option X):Option X:=
 (Ua (Dx.m ()) (0,(Ka ((nt (fa a))-(1:Int))),a)).bind λe1=>
 K e1
def Ez:=λa=>mJ a some
def haa:Spec:=L5.sp Ez
noncomputable def M5:Env:=eE [] (Ra []) (qL 1 Dx.q qN)
theorem OP:LL C M5 [] Tryz.f156 9:=λhc=>
 lO hc Dx
theorem iaa:OK (1) 156 (L5.sp Ez):=
 fO (env:=M5) (za cn) (fn:=Tryz.f156) (mc:=@mJ) (by intros;simp only[Ez,mJ,nn]) (hl:=λhc=>(Vi (Ta (OP hc) fc)))
def p7:FS (Ba) ((List Int)×(List Int))where
 sk:=⟨(.cons (.agg Va) .nil),[],0⟩
 a:=λu=>(q8 u.1.1)
 o:=λZ a r K=>kv K (.ptr 0 0) [.Ee R8,.cells .i,.cells .i] 0 () ((r7 a (a.t7,(),(),())),r.1,r.2,())
abbrev Ym:LD (Nat×Ba×Ba×(List Int)×(List Int)×(List Uf)) ((List Kd)) (((List Uf)×(List Kd)) ⊕ ((List Kd)))where
 sk:=⟨[(1,.loc 0 0),(3,.p 0 0),(4,.v (.all 3)),(5,.v (.all 4)),(6,.v (.Lm 4 0))],[Va],[.Ee R8,.cells .i,.cells .i,.cells HU,.cells bu],0,0⟩
 p:=λu=>(u.1.t3.1,(q8 u.2.1.1),(q8 u.2.2.1),u.t3.1,u.t4.1,u.t5.1)
 t:=λu=>u.t6.1
 n:=λp t=>(((),(),(),p.1,()),((r7 p.2.1 (p.2.1.t7,())),()),(r7 p.2.2.1 (p.2.2.1.t7,(),(),())),p.t3.1,p.t4.1,p.t5,t,())
 st:=λY p t ki ke=>let zE:=gx t p.1 We
  let zA:=gx p.2.1.1 (ia zE.1) Pb
  let zB:=Wb t p.1 (zE.1,(Ka (zE.2+(1:Int))))
  let zC:=gx p.2.2.2.2.2 (ia zA.2.2.2.2.2.2.1) Ge
  let zD:=gx p.2.2.2.2.2 (ia zA.2.2.2.2.2.2.2) Ge
  let zF:=([(zA.2.2.2.2.2.2.1,0)]:List Kd)
  let zG:=([(zA.2.2.2.2.2.2.2,0)]:List Kd)
  let zH:=fa p.2.2.2.2.2
  let zI:=fa zB
  cond (decide (zE.2<(2:Int)))
  (ask (V.ua zE.1 (fa p.2.1.1)) (cond (decide (zE.2=(0:Int)))
  (cond (decide ((0:Int)<=zA.2.2.2.2.2.2.1))
  (ask (V.ua zA.2.2.2.2.2.2.1 zH) (cond ((zC.1==false)&&((zC.2==false)&&true))
  (ask (V.ua zA.2.2.2.2.2.2.1 zH) (ask (decide ((zI+(fa zF)) * 16<=70368744177664)&&decide ((zI+(fa zF))<9223372036854775808)) (ke (.inl ((Wb p.2.2.2.2.2 (ia zA.2.2.2.2.2.2.1) (true,zC.2)),(zB++zF))))))
  (ki (zB))))
  (ki (zB)))
  (cond (decide (zE.2=(1:Int)))
  (cond (decide ((0:Int)<=zA.2.2.2.2.2.2.2))
  (ask (V.ua zA.2.2.2.2.2.2.2 zH) (cond ((zD.1==false)&&((zD.2==false)&&true))
  (ask (V.ua zA.2.2.2.2.2.2.2 zH) (ask (decide ((zI+(fa zG)) * 16<=70368744177664)&&decide ((zI+(fa zG))<9223372036854775808)) (ke (.inl ((Wb p.2.2.2.2.2 (ia zA.2.2.2.2.2.2.2) (true,zD.2)),(zB++zG))))))
  (ki (zB))))
  (ki (zB)))
  (none))))
  (ke (.inr (t)))
 o:=λZ p e K=>Sum.elim (λe=>so K (.exit 1) ⟨[(1,.loc 0 0),(3,.p 0 0),(4,.v (.all 3)),(5,.v (.all 4))],[Va],[.Ee R8,.cells .i,.cells .i,.cells HU,.cells bu],0,0⟩ (((),(),(),()),((r7 p.2.1 (p.2.1.t7,())),()),(r7 p.2.2.1 (p.2.2.1.t7,(),(),())),p.t3.1,p.t4.1,e.1,e.2,())) (λe=>so K (.exit 2) ⟨[(1,.loc 0 0),(3,.p 0 0),(4,.v (.all 3)),(5,.v (.all 4)),(6,.v (.Lm 4 0))],[Va],[.Ee R8,.cells .i,.cells .i,.cells HU,.cells bu],0,0⟩ (((),(),(),p.1,()),((r7 p.2.1 (p.2.1.t7,())),()),(r7 p.2.2.1 (p.2.2.1.t7,(),(),())),p.t3.1,p.t4.1,p.t5,e,())) e
 ve:=⟨[1,3,4,5,6],[],[],[]⟩
 pe:=[(.exit 1,⟨[1,3,4,5],[],[],[]⟩),(.exit 2,⟨[1,3,4,5,6],[],[],[]⟩)]
abbrev Kt:LD (Ba×Ba×(List Int)) ((List Int)×(List Uf)×(List Kd)) ((List Int))where
 sk:=⟨[(1,.loc 0 0),(3,.p 0 0),(4,.v (.all 3)),(5,.v (.all 4))],[Va],[.Ee R8,.cells .i,.cells .i,.cells HU,.cells bu],0,0⟩
 p:=λu=>((q8 u.2.1.1),(q8 u.2.2.1),u.t4.1)
 t:=λu=>(u.t3.1,u.t5.1,u.t6.1)
 n:=λp t=>(((),(),(),()),((r7 p.1 (p.1.t7,())),()),(r7 p.2.1 (p.2.1.t7,(),(),())),t.1,p.2.2,t.2.1,t.2.2,())
 st:=λY p t ki ke=>let zB:=fa t.2.2
  let zA:=ia (Ka ((nt zB)-(1:Int)))
  cond (decide ((0:Int)<(nt zB)))
  (ask (V.ua (Ka ((nt zB)-(1:Int))) zB) ((Ua (Ym.m (zA,p.1,p.2.1,t.1,p.2.2,t.2.1)) t.2.2).bind λe1=>
  Sum.elim (λe2=>ki (t.1,e2.1,e2.2))
  (λe3=>ask (V.ua (gx e3 zA We).1 (fa t.2.1)) (ask (decide (((fa t.1)+(fa ([(gx e3 zA We).1]:List Int))) * 8<=70368744177664)&&decide (((fa t.1)+(fa ([(gx e3 zA We).1]:List Int)))<9223372036854775808)) (ask (decide (0<=(0:Int))&&decide ((0:Int)<=(Ka ((nt (fa e3))-(1:Int))))&&decide ((Ka ((nt (fa e3))-(1:Int)))<=(nt (fa e3)))) (ki ((t.1++([(gx e3 zA We).1]:List Int)),(Wb t.2.1 (ia (gx e3 zA We).1) ((gx t.2.1 (ia (gx e3 zA We).1) Ge).1,true)),(List.take (ia (Ka ((nt (fa e3))-(1:Int)))-0) e3)))))) e1))
  (ke (t.1))
 o:=λZ p e K=>so K (.exit 0) ⟨[(3,.p 0 0)],[],[.Ee R8,.cells .i,.cells .i],0,0⟩ (((),()),(),(r7 p.2.1 (p.2.1.t7,(),(),())),e,p.2.2,())
 ve:=⟨[1,3,4,5],[(5,(.own bu))],[],[(0,[.any,.any,.any,.any,.any,.any,.any,.any,(.own (.int .i64)),.any])]⟩
 pe:=[(.exit 0,⟨[3],[],[],[]⟩)]
abbrev Lo:LD (Int×Ba×(List Int)) (Int×(List Int)) ((List Int))where
 sk:=⟨[(3,.p 0 0),(114,.i),(115,.i)],[],[.Ee R8,.cells .i,.cells .i],0,0⟩
 p:=λu=>(u.1.2.1,(q8 u.2.2.1),u.t3.1)
 t:=λu=>(u.1.2.2.1,u.t4.1)
 n:=λp t=>(((),p.1,t.1,()),(),(r7 p.2.1 (p.2.1.t7,(),(),())),p.2.2,t.2,())
 st:=λY p t ki ke=>cond (decide (t.1<p.1))
  (ask (V.ua t.1 (fa t.2)) (ki ((Ka (t.1+(1:Int))),(Wb t.2 (ia t.1) (-1)))))
  (ke (t.2))
 o:=λZ p e K=>so K (.exit 4) ⟨[(3,.p 0 0)],[],[.Ee R8,.cells .i,.cells .i],0,0⟩ (((),()),(),(r7 p.2.1 (p.2.1.t7,(),(),())),p.2.2,e,())
 ve:=⟨[3,114,115],[],[],[]⟩
 pe:=[(.exit 4,⟨[3],[],[],[]⟩)]
abbrev Ko:LD (Int×Ba×(List Int)) (Int×(List Int)) ((List Int))where
 sk:=⟨[(3,.p 0 0),(128,.v (.all 1)),(129,.i),(130,.i)],[],[.Ee R8,.cells .i,.cells .i],0,0⟩
 p:=λu=>(u.1.2.2.1,(q8 u.2.2.1),u.t3.1)
 t:=λu=>(u.1.t3.1,u.t4.1)
 n:=λp t=>(((),(),p.1,t.1,()),(),(r7 p.2.1 (p.2.1.t7,(),(),())),p.2.2,t.2,())
 st:=λY p t ki ke=>cond (decide (t.1<p.1))
  (ask (V.ua t.1 (fa p.2.2)) (ask (V.ua (gx p.2.2 (ia t.1) (0:Int)) (fa t.2)) (ki ((Ka (t.1+(1:Int))),(Wb t.2 (ia (gx p.2.2 (ia t.1) (0:Int))) t.1)))))
  (ke (t.2))
 o:=λZ p e K=>so K (.exit 6) ⟨[(3,.p 0 0)],[],[.Ee R8,.cells .i,.cells .i],0,0⟩ (((),()),(),(r7 p.2.1 (p.2.1.t7,(),(),())),p.2.2,e,())
 ve:=⟨[3,128,129,130],[],[],[]⟩
 pe:=[(.exit 6,⟨[3],[],[],[]⟩)]
def bK{X:Type}(a:Ba)(K:(List Int)×(List Int)->Option X):Option X:=
 let zA:=nt (fa a.1)
 let zB:=fb (ia zA) ((false,false):Uf)
 let zC:=fb (ia zA) (0:Int)
 ask (decide (0<=zA)&&decide (zA<=zA)&&decide (8 * zA<=70368744177664)&&decide (zA<9223372036854775808)) (ask (decide (0<=zA)&&decide (zA<=zA)&&decide (2 * zA<=70368744177664)&&decide (zA<9223372036854775808)) (ask (V.ua 0 (fa zB)) ((Ua (Kt.m (a,a,zC)) ([],(Wb zB 0 (true,(gx zB 0 Ge).2)),([(0,0)]:List Kd))).bind λe1=>
 (Ez e1).bind λr2=>
 (Ua (Lo.m ((nt (fa zC)),a,r2)) (0,zC)).bind λe3=>
 (Ua (Ko.m ((nt (fa r2)),a,r2)) (0,e3)).bind λe4=>
 K (r2,e4))))
def KE:=λa=>bK a some
def jab:Spec:=p7.sp KE
noncomputable def ME:Env:=eE [] (Ra [(156,haa)]) (qL 7 Ym.q (qL 5 Kt.q (qL 18 Lo.q (qL 23 Ko.q qN))))
theorem uQ:LL C ME [1] Tryz.f115 70781:=λhc=>
 lO hc Ym
theorem vQ:LL C ME [1] Tryz.f115 1149:=λhc=>
 lO hc Kt (hl:=(Vi (Ta (uQ hc) fc)))
theorem XM:LL C ME [1] Tryz.f115 9725:=λhc=>
 lO hc Lo
theorem WM:LL C ME [1] Tryz.f115 19453:=λhc=>
 lO hc Ko
theorem kab:OK (2) 115 (p7.sp KE):=
 fO (env:=ME) (za (cc iaa cn)) (fn:=Tryz.f115) (mc:=@bK) (by intros;simp only[KE,bK,nn]) (Ca:=[1]) (hl:=λhc=>(Vi (Ta (vQ hc) (Ta (XM hc) (Ta (WM hc) fc)))))
def Had:FS (Ba) ((List Int))where
 sk:=⟨(.cons (.agg Va) .nil),[],0⟩
 a:=λu=>(q8 u.1.1)
 o:=λZ a r K=>kv K (.lit .i) [] 0 r ()
def mT{X:Type}(a:Ba)(K:(List Int)->Option X):Option X:=
 (KE a).bind λr1=>
 K r1.1
def xu:=λa=>mT a some
def C3:Spec:=Had.sp xu
noncomputable def Aao:Env:=eE [] (Ra [(115,jab)]) qN
theorem D3:OK (3) 58 (Had.sp xu):=
 fO (env:=Aao) (za (cc kab cn)) (fn:=Tryz.f58) (mc:=@mT) (by intros;simp only[xu,mT,nn]) (Ca:=[1]) (sh:=(.lit (.int .i64))) (fz:=true)
def Uad:FS (Ba×Ga) (Y4)where
 sk:=⟨(cL [(.agg Va),(.agg Mb)]),[],0⟩
 a:=λu=>((q8 u.1.1),u.1.2.1.1,(u.1.2.1.2.1,u.1.2.1.2.2.1))
 o:=λZ a r K=>kv K (.ptr 0 0) [.Ee vO,.Pe .i true Vd,.Pe .i true Ma,.Jg .i [((2:Int),(.fn 85 .nil)),((3:Int),(.fn 87 .nil)),((4:Int),(.fn 89 .nil)),((5:Int),(.fn 90 .nil)),((6:Int),(.fn 91 .nil)),((7:Int),(.fn 92 .nil)),((8:Int),(.fn 93 .nil)),((9:Int),(.fn 83 .nil)),((10:Int),(.fn 83 .nil))]] 0 () ((r7 a.1 (a.1.t7,a.2.1,a.2.2.1,a.t3,(),(),(),())),r.1,r.2,((),(),(),(),(),(),(),(),(),()),())
abbrev TD:LD ((List Lb)×Int×(Ba×Ga)×(List (Int×ga))) (Int×(List (Int×Lb))) ((List (Int×Lb)))where
 sk:=⟨[(5,.p 0 0),(16,.v (.lit Vd)),(17,.i),(18,.i)],[],[.Ee kr2,.Pe .i true Vd,.Pe .i true Ma],0,0⟩
 p:=λu=>(u.1.2.1,u.1.2.2.1,((q8 u.2.2.1),(q3 u.2.2.1.t8)),u.t4.1)
 t:=λu=>(u.1.t3.1,u.t3.1)
 n:=λp t=>(((),p.1,p.2.1,t.1,()),(),(r7 p.2.2.1.1 (p.2.2.1.1.t7,p.2.2.1.2.1,p.2.2.1.2.2.1,p.2.2.1.t3,(),(),(),())),t.2,p.t3,())
 st:=λY p t ki ke=>cond (decide (t.1<p.2.1))
  (ask (V.ua t.1 (fa p.1)) (cond (decide ((1:Int)<=(gx p.1 (ia t.1) Pb).1))
  (cond (decide ((gx p.1 (ia t.1) Pb).1<=(12:Int)))
  (ki ((Ka (t.1+(1:Int))),(Mu (k:=(.int .i64)) (gx p.1 (ia t.1) Pb).2.1 (gx p.1 (ia t.1) Pb) t.2)))
  (ki ((Ka (t.1+(1:Int))),t.2)))
  (ki ((Ka (t.1+(1:Int))),t.2))))
  (ke (t.2))
 o:=λZ p e K=>so K (.exit 0) ⟨[(5,.p 0 0)],[],[.Ee kr2,.Pe .i true Vd,.Pe .i true Ma],0,0⟩ (((),()),(),(r7 p.2.2.1.1 (p.2.2.1.1.t7,p.2.2.1.2.1,p.2.2.1.2.2.1,p.2.2.1.t3,(),(),(),())),e,p.t3,())
 ve:=⟨[5,16,17,18],[],[],[]⟩
 pe:=[(.exit 0,⟨[5],[],[],[]⟩)]
def AT{X:Type}(a:Ba×Ga)(K:Y4->Option X):Option X:=
 (Ua (TD.m (a.1.1,(nt (fa a.1.1)),a,([]:List (Int×ga)))) (0,([]:List (Int×Lb)))).bind λe1=>
 K (e1,([]:List (Int×ga)))
def SD:=λa=>AT a some
def Q3:Spec:=Uad.sp SD
noncomputable def Vad:Env:=eE [] (Ra []) (qL 3 TD.q qN)
theorem zW:LL C Vad [2,3,7] Tryz.f46 75:=λhc=>
 lO hc TD
theorem R3:OK (1) 46 (Uad.sp SD):=
 fO (env:=Vad) (za cn) (fn:=Tryz.f46) (mc:=@AT) (by intros;simp only[SD,AT,nn]) (Ca:=[2,3,7]) (hl:=λhc=>(Vi (Ta (zW hc) fc)))
def Rad:FS (Ga) (Unit)where
 sk:=⟨(.cons (.agg Mb) .nil),[],0⟩
 a:=λu=>(q3 u.1.1)
 o:=λZ a r K=>kv K (.agg (cL [.bool,(.all 0),(.all 1)])) [.cells Ma,.cells Ma] 0 (a.1,(),(),()) (a.2.1,a.2.2,())
def xT{X:Type}(a:Ga)(K:Unit->Option X):Option X:=
 ask (decide ((fa a.2.1) * 24<=70368744177664)&&decide ((fa a.2.1)<9223372036854775808)) (ask (decide ((fa a.2.2) * 24<=70368744177664)&&decide ((fa a.2.2)<9223372036854775808)) (K ()))
def tq:=λa=>xT a some
def M3:Spec:=Rad.sp tq
noncomputable def Hao:Env:=eE [] (Ra []) qN
theorem N3:OK (1) 49 (Rad.sp tq):=
 fO (env:=Hao) (za cn) (fn:=Tryz.f49) (mc:=@xT) (by intros;simp only[tq,xT,nn]) (Ca:=[1,2]) (sh:=(.agg [.any,(.own Ma),(.own Ma)]))
def fad:FS (Unit) (Unit)where
 sk:=⟨.nil,[],0⟩
 a:=λu=>()
 o:=λZ a r K=>kv K (.agg La) [] 0 (true,(0:Int),(0:Int),()) ()
def L1{X:Type}(a:Unit)(K:Unit->Option X):Option X:=
 K ()
def K1:=λa=>L1 a some
def I1:Spec:=fad.sp K1
noncomputable def kao:Env:=eE [] (Ra []) qN
theorem J1:OK (1) 84 (fad.sp K1):=
 fO (env:=kao) (za cn) (fn:=Tryz.f84) (mc:=@L1) (by intros;simp only[K1,L1,nn]) (Ca:=[0])
def H6:FS (Unit) (ga)where
 sk:=⟨.nil,[],0⟩
 a:=λu=>()
 o:=λZ a r K=>kv K (.agg La) [] 0 (r.1,r.2.1,r.2.2,()) ()
def JJ{X:Type}(a:Unit)(K:ga->Option X):Option X:=
 (Cm (1,0)).bind λr1=>
 K r1
def Qz:=λa=>JJ a some
def Saa:Spec:=H6.sp Qz
noncomputable def yaj:Env:=eE [] (Ra [(122,TJ)]) qN
theorem Taa:OK (5) 134 (H6.sp Qz):=
 fO (env:=yaj) (za (cc UJ cn)) (fn:=Tryz.f134) (mc:=@JJ) (by intros;simp only[Qz,JJ,nn]) (Ca:=[0])
def Qac:FS (Int×Int) (ga)where
 sk:=⟨(cL [(.int .u64),.i]),[],0⟩
 a:=λu=>(u.1.1,u.1.2.1)
 o:=λZ a r K=>kv K (.agg La) [] 0 (r.1,r.2.1,r.2.2,()) ()
def BS{X:Type}(a:Int×Int)(K:ga->Option X):Option X:=
 cond (decide (a.1=(0:Int)))
 ((Li a.2).bind λr1=>
 K (r1.1,(0,r1.2)))
 ((Xj (a.2,a.1)).bind λr2=>
 (Wj (a.1,r2)).bind λr3=>
 K r3)
def Fo:=λa=>BS a some
def pD:Spec:=Qac.sp Fo
noncomputable def Van:Env:=eE [] (Ra [(127,Zp),(117,bq),(132,VB)]) qN
theorem qD:OK (4) 98 (Qac.sp Fo):=
 fO (env:=Van) (za (cc aq (cc cq (cc WB cn)))) (fn:=Tryz.f98) (mc:=@BS) (by intros;simp only[Fo,BS,nn]) (Ca:=[4])
def dad:FS (ga) (ga)where
 sk:=⟨(.cons (.agg La) .nil),[],0⟩
 a:=λu=>(q3 u.1.1)
 o:=λZ a r K=>kv K (.agg La) [] 0 (r.1,r.2.1,r.2.2,()) ()
def OS{X:Type}(a:ga)(K:ga->Option X):Option X:=
 cond a.1
 (K a)
 ((Fo ((Ia a.2.1),(Ka ((0:Int)-a.2.2)))).bind λr1=>
 K r1)
def vD:=λa=>OS a some
def D1:Spec:=dad.sp vD
noncomputable def iao:Env:=eE [] (Ra [(98,pD)]) qN
theorem E1:OK (5) 86 (dad.sp vD):=
 fO (env:=iao) (za (cc qD cn)) (fn:=Tryz.f86) (mc:=@OS) (by intros;simp only[vD,OS,nn]) (Ca:=[1,2])
def ead:FS (ga×ga) (ga)where
 sk:=⟨(cL [(.agg La),(.agg La)]),[],0⟩
 a:=λu=>((q3 u.1.1),u.1.2.1.1,(u.1.2.1.2.1,u.1.2.1.2.2.1))
 o:=λZ a r K=>kv K (.agg La) [] 0 (r.1,r.2.1,r.2.2,()) ()
def PS{X:Type}(a:ga×ga)(K:ga->Option X):Option X:=
 (vD a.1).bind λr1=>
 K r1
def UA:=λa=>PS a some
def fah:Spec:=ead.sp UA
noncomputable def jao:Env:=eE [] (Ra [(86,D1)]) qN
theorem gah:OK (6) 85 (ead.sp UA):=
 fO (env:=jao) (za (cc E1 cn)) (fn:=Tryz.f85) (mc:=@PS) (by intros;simp only[UA,PS,nn]) (Ca:=[2,3,4])
def O6:FS (Int×Int) (Int)where
 sk:=⟨Rk,[],0⟩
 a:=λu=>(u.1.1,u.1.2.1)
 o:=λZ a r K=>kv K (.int .u64) [] 0 r ()
abbrev OJ:LD (Unit) (Int×Int) (Int)where
 sk:=⟨[(0,.v (.int .u64)),(1,.v (.int .u64))],[],[],0,0⟩
 p:=λu=>()
 t:=λu=>(u.1.1,u.1.2.1)
 n:=λp t=>((t.1,t.2,()),(),())
 st:=λY p t ki ke=>cond (!(decide (t.2=(0:Int))))
  (cond (decide (t.2=(0:Int)))
  (none)
  (ki (t.2,(zb t.1 t.2))))
  (ke (t.1))
 o:=λZ p e K=>so K (.exit 0) ⟨[(0,.v (.int .u64))],[],[],0,0⟩ ((e,()),(),())
 ve:=⟨[0,1],[],[],[]⟩
 pe:=[(.exit 0,⟨[0],[],[],[]⟩)]
def PJ{X:Type}(a:Int×Int)(K:Int->Option X):Option X:=
 (Ua (OJ.m ()) (a.1,a.2)).bind λe1=>
 K e1
def Dg:=λa=>PJ a some
def It:Spec:=O6.sp Dg
noncomputable def P6:Env:=eE [] (Ra []) (qL 1 OJ.q qN)
theorem jQ:LL C P6 [] Tryz.f128 17:=λhc=>
 lO hc OJ
theorem Jt:OK (1) 128 (O6.sp Dg):=
 fO (env:=P6) (za cn) (fn:=Tryz.f128) (mc:=@PJ) (by intros;simp only[Dg,PJ,nn]) (hl:=λhc=>(Vi (Ta (jQ hc) fc)))
end
end Go.U
end
