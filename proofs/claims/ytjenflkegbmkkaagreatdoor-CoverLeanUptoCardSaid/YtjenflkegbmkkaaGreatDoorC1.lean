/- The functions of the program as Lean functions, and that the evaluator says so. -/
import Derived.Test.YtjenflkegbmkkaaGreatDoorB3
import Derived.Test.YtjenflkegbmkkaaGreatDoorA6
import Derived.Test.YtjenflkegbmkkaaGreatDoorProg
import Derived.KernelRfl
import Derived.Test.YtjenflkegbmkkaaGreatDoorB5
import Derived.Lib.ItoaNum
set_option linter.unusedVariables false
set_option linter.unusedSimpArgs false
set_option linter.unusedSectionVars false
open Int renaming toNat→fa
open List renaming range→ua,mem_cons_self→Fc,mem_cons_of_mem→Ib,append_nil→zi,getElem?_toArray→ec,getElem?_cons_zero→Ge,getElem?_cons_succ→We,length_nil→Ng,length→da,set→Oa,replicate→Ba
open Nat renaming le_trans→Gb,zero_add→Qe
open Option renaming bind_eq_some_iff→aa,bind_some→ga
namespace Go.U
open Go Go.Proofs
def Ea(n:Int):Int:=IntKind.wrap .i64 n
def Rf(n:Int):Int:=IntKind.wrap .u64 n
def nt(n:Nat):Int:=n
def gx{α:Type}(l:List α)(i:Nat)(d:α):α:=l.getD i d
def str(l:List UInt8):ByteArray:=⟨l.toArray⟩
def L3(k:IntKind)(x y:Int):Int:=let a:=BitVec.ofInt k.bits x;let b:=BitVec.ofInt k.bits y;k.wrap (a &&& b).toNat
abbrev ya:CT:=(.pair (.int .i64) (.int .i64))
abbrev za:Type:=(Int×Int)
abbrev vb:za:=((0:Int),(0:Int))
abbrev Qf:CT:=(.pair .str ya)
abbrev Xb:Type:=(ByteArray×za)
abbrev uc:Xb:=(ByteArray.empty,vb)
abbrev Nd:CT:=(.pair .str (.pair (.int .i64) ya))
abbrev Bb:Type:=(ByteArray×(Int×za))
abbrev fb:Bb:=(ByteArray.empty,((0:Int),vb))
abbrev xae:CT:=(.pair (.int .i64) (.pair (.int .i64) ya))
abbrev uO:Type:=(Int×(Int×za))
abbrev qae:uO:=((0:Int),((0:Int),vb))
abbrev De:CT:=(.pair (.slice .bool) (.pair (.slice (.pair .bool .bool)) (.slice ya)))
abbrev Pa:Type:=((List Bool)×((List (Bool×Bool))×(List za)))
abbrev vj:Pa:=([],([],[]))
abbrev Md:CT:=(.pair (.int .i64) (.pair (.int .i64) (.pair (.int .i64) (.pair (.int .i64) xae))))
abbrev Wa:Type:=(Int×(Int×(Int×(Int×uO))))
abbrev Ta:Wa:=((0:Int),((0:Int),((0:Int),((0:Int),qae))))
abbrev Ir:Type:=(Int×(Int×(Int×(Int×(Int×((List Int)×((List (List Int))×(List (List Int)))))))))
abbrev Iy:CT:=(.pair (.slice Md) (.pair (.int .i64) (.pair (.int .i64) (.pair (.int .i64) (.pair (.slice Nd) (.pair (.slice Qf) (.pair (.slice Nd) (.slice ya))))))))
abbrev Ga:Type:=((List Wa)×(Int×(Int×(Int×((List Bb)×((List Xb)×((List Bb)×(List za))))))))
def xp(f:Func):Code:=match f.body with|some c=>c|none=> .skip
def kid:Code->Nat->Code
 | .seq a _,0=>a
 | .seq _ b,1=>b
 | .cond _ a _,0=>a
 | .cond _ _ b,1=>b
 | .block _ c,0=>c
 | .loop c,0=>c
 | .scope c,0=>c
 | .rangeFunc _ _ a _,0=>a
 | .rangeFunc _ _ _ b,1=>b
 |c,_=>c
def QE:List Nat->Code->Code
 |[],c=>c
 |i::l,c=>QE l (kid c i)
def uh(j:Nat->Bool)(key k:Nat):Bool:=if k=key then false else j k
def cm{α:Type}(d:α):List (FuncId×α)->FuncId->α
 |[],_=>d
 |(g,x)::l,f=>if f=g then x else cm d l f
def rfG:Code->Operand
 | .rangeFunc g _ _ _=>g
 |_=> .tmp 0
def Caf:Code->Array Tmp
 | .rangeFunc _ ps _ _=>ps
 |_=> #[]
def rfA:Code->Code
 | .rangeFunc _ _ a _=>a
 |c=>c
def rfB:Code->Code
 | .rangeFunc _ _ _ b=>b
 |c=>c
def J5(n:Nat)(c:Code):RFn:=⟨n,(Caf c).toList,rfA c,rfB c⟩
noncomputable def rfT:Nat->RFn:=cm ⟨0,[],.skip,.skip⟩ [(180000,J5 10 (QE [1,1,0,1,0] (xp Tryz.f18))),(230003,J5 63 (QE [1,1,0,1,0] (xp Tryz.f23))),(240002,J5 13 (QE [1,0,1,0] (xp Tryz.f24))),(440003,J5 17 (QE [1,1,0,1,0] (xp Tryz.f44)))]
noncomputable instance:ZC:=⟨rfT,74,5⟩
def rB:List V.AV:=[.int .u64 1,.int .u64 10,.int .u64 100,.int .u64 1000,.int .u64 10000,.int .u64 100000,.int .u64 1000000,.int .u64 10000000,.int .u64 100000000,.int .u64 1000000000,.int .u64 10000000000,.int .u64 100000000000,.int .u64 1000000000000,.int .u64 10000000000000,.int .u64 100000000000000,.int .u64 1000000000000000,.int .u64 10000000000000000,.int .u64 100000000000000000,.int .u64 1000000000000000000,.int .u64 10000000000000000000]
noncomputable def Maj:FuncId->Option (List V.AV->V.AH->Option (V.AV×V.AH)):=cm none [(41,some (V.uD 74 5)),(67,some (V.y8 74)),(103,some (V.T6)),(45,some (V.Nw)),(51,some (V.Sm 52 V.qh)),(46,some (V.zo V.Ci))]
noncomputable def Faf:List (FuncId×Option Func):=[(3,some Tryz.f3),(4,some Tryz.f4),(5,some Tryz.f5),(6,some Tryz.f6),(7,some Tryz.f7),(8,some Tryz.f8),(9,some Tryz.f9),(10,some Tryz.f10),(11,some Tryz.f11),(12,some Tryz.f12),(13,some Tryz.f13),(14,some Tryz.f14),(15,some Tryz.f15),(16,some Tryz.f16),(17,some Tryz.f17),(18,some Tryz.f18),(19,some Tryz.f19),(20,some Tryz.f20),(21,some Tryz.f21),(22,some Tryz.f22),(23,some Tryz.f23),(24,some Tryz.f24),(25,some Tryz.f25),(26,some Tryz.f26),(27,some Tryz.f27),(28,some Tryz.f28),(29,some Tryz.f29),(30,some Tryz.f30),(31,some Tryz.f31),(32,some Tryz.f32),(33,some Tryz.f33),(34,some Tryz.f34),(35,some Tryz.f35),(36,some Tryz.f36),(37,some Tryz.f37),(39,some Tryz.f39),(40,some Tryz.f40),(42,some Tryz.f42),(43,some Tryz.f43),(44,some Tryz.f44),(50,some Tryz.f50),(55,some Tryz.f55),(56,some Tryz.f56),(57,some Tryz.f57),(58,some Tryz.f58),(59,some Tryz.f59),(60,some Tryz.f60),(61,some Tryz.f61),(62,some Tryz.f62),(63,some Tryz.f63),(64,some Tryz.f64),(65,some Tryz.f65),(66,some Tryz.f66),(68,some Tryz.f68),(69,some Tryz.f69),(72,some Tryz.f72),(75,some Tryz.f75),(76,some Tryz.f76),(77,some Tryz.f77),(78,some Tryz.f78),(79,some Tryz.f79),(80,some Tryz.f80),(81,some Tryz.f81),(82,some Tryz.f82),(83,some Tryz.f83),(84,some Tryz.f84),(85,some Tryz.f85),(86,some Tryz.f86),(87,some Tryz.f87),(88,some Tryz.f88),(89,some Tryz.f89),(90,some Tryz.f90),(91,some Tryz.f91),(92,some Tryz.f92),(93,some Tryz.f93),(94,some Tryz.f94),(95,some Tryz.f95),(96,some Tryz.f96),(97,some Tryz.f97),(98,some Tryz.f98),(99,some Tryz.f99),(100,some Tryz.f100),(101,some Tryz.f101),(115,some Tryz.f115),(124,some Tryz.f124),(125,some Tryz.f125),(126,some Tryz.f126),(127,some Tryz.f127),(128,some Tryz.f128),(129,some Tryz.f129),(130,some Tryz.f130),(131,some Tryz.f131),(38,some Tryz.f38),(41,some Tryz.f41),(67,some Tryz.f67),(103,some Tryz.f103),(48,some Tryz.f48),(47,some Tryz.f47),(49,some Tryz.f49),(45,some Tryz.f45),(51,some Tryz.f51),(46,some Tryz.f46)]
noncomputable def par:V.Eh where
 P:=Tryz.prog
 fns:=cm none Faf
 loc:=cm [] [(3,[3,7,8]),(4,[3]),(5,[4,10,11,12]),(6,[3,10]),(7,[11,2000021]),(8,[1,6]),(9,[1,2000004,2000005,2000006,2000040]),(11,[3,6,7]),(12,[3,6,7,10,11]),(13,[2,3]),(14,[1,2]),(15,[1,2]),(16,[2,3,10,15,16]),(17,[2,3]),(19,[1]),(21,[3,11,16,19]),(22,[3,10,18]),(25,[4,8,10,14]),(26,[14]),(27,[1,4,6,8,10]),(28,[1,6,10]),(29,[1]),(30,[2]),(31,[1]),(32,[3,5]),(33,[1]),(34,[0]),(35,[2,3,4,5]),(36,[3,6,7]),(37,[6,7,12]),(50,[2,3]),(55,[3,9,11]),(56,[0]),(62,[3,5,10]),(63,[3]),(64,[3,6,8]),(65,[13]),(66,[2]),(69,[6,10]),(72,[3]),(76,[5]),(78,[4]),(79,[3]),(80,[3]),(86,[3]),(89,[3]),(90,[3,5]),(91,[3]),(92,[3]),(93,[3,6]),(94,[3]),(95,[3]),(96,[3]),(98,[3]),(99,[3]),(100,[3]),(101,[2]),(115,[3]),(124,[3]),(126,[4]),(128,[3]),(131,[3])]
 keep:=cm [] [(3,ua 83),(4,ua 25),(5,ua 128),(6,ua 106),(7,ua 123),(8,ua 226),(9,ua 52),(10,ua 9),(11,ua 27),(12,ua 34),(13,ua 81),(14,ua 12),(15,ua 12),(16,ua 127),(17,ua 145),(18,ua 10),(19,ua 39),(20,ua 26),(21,ua 122),(22,ua 143),(23,ua 63),(24,ua 13),(25,ua 95),(26,ua 56),(27,ua 174),(28,ua 91),(29,ua 96),(30,ua 44),(31,ua 38),(32,ua 49),(33,ua 78),(34,ua 26),(35,ua 112),(36,ua 17),(37,ua 33),(39,ua 5),(40,ua 17),(42,ua 5),(43,ua 4),(44,ua 17),(50,ua 48),(55,ua 75),(56,ua 20),(57,ua 16),(58,ua 9),(59,ua 7),(60,ua 7),(61,ua 12),(62,ua 95),(63,ua 75),(64,ua 79),(65,ua 41),(66,ua 40),(68,ua 5),(69,ua 66),(72,ua 9),(75,ua 6),(76,ua 42),(77,ua 20),(78,ua 21),(79,ua 4),(80,ua 13),(81,ua 7),(82,ua 9),(83,ua 8),(84,ua 8),(85,ua 8),(86,ua 57),(87,ua 8),(88,ua 8),(89,ua 23),(90,ua 68),(91,ua 37),(92,ua 42),(93,ua 54),(94,ua 49),(95,ua 13),(96,ua 6),(97,ua 17),(98,ua 7),(99,ua 78),(100,ua 57),(101,ua 352),(115,ua 19),(124,ua 45),(125,ua 9),(126,ua 21),(127,ua 28),(128,ua 53),(129,ua 19),(130,ua 17),(131,ua 99),(38,ua 19),(41,ua 14),(67,ua 20),(103,ua 54),(48,ua 8),(47,ua 8),(49,ua 8),(45,ua 33),(51,ua 14),(46,ua 11)]
 pV:=cm false [(21,true),(22,true),(28,true),(31,true),(34,true),(36,true),(37,true),(57,true),(130,true)]
 ext:=Maj
 Ra:=cm none [(0,some rB)]
def Ra(_:Nat):Option (List UV):=none
theorem Js:Fe par Ra:=fun i row h=>by simp[Ra]at h
def pc(l:List Nat)(f:Func):Code:=QE l (xp f)
def qN:(X:Type)->Nat->St->(V.Ex->St->Option X)->Option X:=fun X k s K=>none
def qL(k0:Nat)(q:(X:Type)->St->(V.Ex->St->Option X)->Option X)(r:(X:Type)->Nat->St->(V.Ex->St->Option X)->Option X):(X:Type)->Nat->St->(V.Ex->St->Option X)->Option X:=fun X k s K=>if k=k0 then q X s K else r X k s K
def eE(j:List Nat)(c:(X:Type)->UV->List UV->UH->(UV->UH->Option X)->Option X)(l:(X:Type)->Nat->St->(V.Ex->St->Option X)->Option X):Env:=⟨fun k=>j.contains k,c,l⟩
abbrev LS(C:V.Callee)(e:Env)(rf:Bool)(Fa:List Nat)(n:Nat)(c:Code):Prop:=Gc C e.call->Kc e.loop (vc par C rf Fa n) c
def rfC(c:Code):Code:= .rangeFunc (rfG c) (Caf c) (rfA c) (rfB c)
def OK(d:Nat)(f:FuncId)(s:Spec):Prop:=∀k,d<=k->Xe (V.call par k) f s
def OKY(d:Nat)(s:Spec):Prop:=∀k,d<=k->Ui (V.call par k) s
def zp(d:Nat)(l:List (FuncId×Spec)):Prop:=∀k,d<=k->∀p∈l,Xe (V.call par k) p.1 p.2
def Ww(d:Nat)(l:List (FuncId×Spec)):Prop:=∀k,d<=k->∀p∈l,Ui (V.call par k) p.2
theorem cn{d:Nat}:zp d []:=fun _ _=>Gaa
theorem cyn{d:Nat}:Ww d []:=fun _ _=>jaa
theorem cc{d0 d:Nat}{f:FuncId}{s:Spec}{l:List (FuncId×Spec)}(h:OK d0 f s)(hl:zp d l)(hd:d0<=d:=by omega):zp d ((f,s)::l):=fun k hk=>MO (h k (Gb hd hk)) (hl k hk)
def FS.tk{A R:Type}(S:FS A R)(args:List UV)(H:UH):Bool:=(S.sk.take args H).isSome
def alt(b:List UV->UH->Bool)(s g:Spec):Spec:=fun X args H K=>cond (b args H) (s X args H K) (g X args H K)
theorem cA{d0 d:Nat}{f:FuncId}{b:List UV->UH->Bool}{s g:Spec}{l:List (FuncId×Spec)}(h:OK d0 f s)(hl:zp d ((f,g)::l))(hd:d0<=d:=by omega):zp d ((f,alt b s g)::l):=fun k hk=>
 MO (fun X args H K out ho=>by
  unfold alt at ho;cases hb:b args H<;>rw[hb]at ho
  ·exact hl k hk _ Fc X args H K out ho
  ·exact h k (Gb hd hk) X args H K out ho) fun p hp=>hl k hk p (Ib _ hp)
theorem ccy{d0 d:Nat}{f:FuncId}{s:Spec}{l:List (FuncId×Spec)}(h:OKY d0 s)(hl:Ww d l)(hd:d0<=d:=by omega):Ww d ((f,s)::l):=fun k hk=>p5 (h k (Gb hd hk)) (hl k hk)
theorem Da{d:Nat}{l:List (FuncId×Spec)}(h:zp d l):∀k,d<=k->Gc (V.call par k) (mb l):=fun k hk=>sL (h k hk)
theorem Mj{d:Nat}{l ly:List (FuncId×Spec)}(h:zp d l)(hy:Ww d ly):∀k,d<=k->Gc (V.call par k) (Et l ly):=fun k hk=>jO (h k hk) (hy k hk)
theorem eam{d:Nat}{env:Env}(mj:∀k,d<=k->Gc (V.call par k) env.call){f:FuncId}{fn:Func}{Fa:List Nat}{sh:Sh}{fz:Bool}
  (hd:(par.fns f,(match fn.body with|some _=>true|none=>false),par.ext f,par.loc f,par.keep f,par.pV f)=(some fn,true,none,Fa,ua fn.ntmps,fz))
  (hl:∀{C:V.Callee},Gc C env.call->∀c'∈loops env.join (xp fn),Kc env.loop (vc par C true Fa fn.ntmps) c') {A' R:Type} {S:FS A' R} {m:A'->Option R} {mc:(X:Type)->A'->(R->Option X)->Option X}
  (de:∀X u K,iK par Ra env Fa fn sh fz (S.sk.args u) (S.sk.heap u) K=mc X (S.a u) (fun r=>S.o _ (S.a u) r K))
  (Ii:∀X a K,mc X a K=(m a).bind K):OK (d+1) f (S.sp m):=by
 intro k hk;obtain⟨k,rfl⟩:∃j,k=j+1:=⟨k-1,by omega⟩;have hc:=mj k (by omega);simp only[Prod.mk.injEq]at hd;obtain⟨h1,h2,h3,h4,h5,h6⟩:=hd;have hb:fn.body=some (xp fn):=by
  unfold xp;cases hb:fn.body with
  |none=>rw[hb]at h2;simp at h2
  |some c=>rfl
 exact N6 Js hc h1 hb h3 h4 h5 h6 (hl hc) S de Ii
theorem u5{d:Nat}{env:Env}(mj:∀k,d<=k->Gc (V.call par k) env.call){id:Nat}{r:RFn}(FM:rfT id=r)
  (h1:∀{C:V.Callee},Gc C env.call->∀c'∈loops env.join r.assign,Kc env.loop (vc par C false [] r.n) c') (h2:∀{C:V.Callee},Gc C env.call->∀c'∈loops env.join r.body,Kc env.loop (vc par C false [] r.n) c') {A' R:Type} {S:FS A' R} {m:A'->Option R} {mc:(X:Type)->A'->(R->Option X)->Option X}
  (de:∀X u K,CO par Ra env id r (S.sk.args u) (S.sk.heap u) K=mc X (S.a u) (fun r=>S.o _ (S.a u) r K))
  (Ii:∀X a K,mc X a K=(m a).bind K):OKY (d+1) (S.sp m):=by
 intro k hk;obtain⟨k,rfl⟩:∃j,k=j+1:=⟨k-1,by omega⟩;have hc:=mj k (by omega);exact o5 Js hc FM (h1 hc) (h2 hc) S de Ii
theorem nn:(∀{α β:Type}(b:Bool)(x y:Option α)(k:α->Option β),(cond b x y).bind k=cond b (x.bind k) (y.bind k))/\(∀{α β:Type}(b:Bool)(x:Option α)(k:α->Option β),(ask b x).bind k=ask b (x.bind k))/\(∀{α β γ δ:Type}(e:α ⊕ β)(f:α->Option γ)(g:β->Option γ)(k:γ->Option δ),(e.elim f g).bind k=e.elim (fun a=>(f a).bind k) (fun a=>(g a).bind k))/\(∀{α β γ:Type}(x:Option α)(f:α->Option β)(g:β->Option γ),(x.bind f).bind g=x.bind fun a=>(f a).bind g)/\
  (∀{α β:Type}(a:α)(f:α->Option β),(some a).bind f=f a)/\(∀{α β:Type}(f:α->Option β),(none:Option α).bind f=none)/\(∀{α β γ:Type}(f:α->γ)(g:β->γ)(a:α),Sum.elim f g (.inl a)=f a)/\∀{α β γ:Type}(f:α->γ)(g:β->γ)(b:β),Sum.elim f g (.inr b)=g b:=
 ⟨n1,n2,n3,n4,n5,n6,n7,n8⟩
theorem fO{d:Nat}{env:Env}(mj:∀k,d<=k->Gc (V.call par k) env.call){f:FuncId}{fn:Func}{A' R:Type}{S:FS A' R}{m:A'->Option R}{mc:(X:Type)->A'->(R->Option X)->Option X}(Ii:∀X a K,mc X a K=(m a).bind K)(Fa:List Nat:=[])(sh:Sh:= .any)(fz:Bool:=false)
 (hl:∀{C:V.Callee},Gc C env.call->∀c'∈loops env.join (xp fn),Kc env.loop (vc par C true Fa fn.ntmps) c':=by intro _ _;refine nc ?_ Mb;kernel_rfl)
 (hd:(par.fns f,(match fn.body with|some _=>true|none=>false),par.ext f,par.loc f,par.keep f,par.pV f)=(some fn,true,none,Fa,ua fn.ntmps,fz):=by kernel_rfl)
 (de:∀X u K,iK par Ra env Fa fn sh fz (S.sk.args u) (S.sk.heap u) K=mc X (S.a u) (fun r=>S.o _ (S.a u) r K):=by intro _ _ _;kernel_rfl):OK (d+1) f (S.sp m):=eam mj hd hl de Ii
section
variable {C:V.Callee}{rf:Bool}{Fa:List Nat}{n:Nat}
theorem lO{env:Env}(hc:Gc C env.call){c:Code}{P T E:Type}(L:LD P T E)(Ii:∀Y p t ki ke,L.st Y p t ki ke=(L.m p t).bind (Sum.elim ki ke))
 (hl:∀c'∈loops env.join c,Kc env.loop (vc par C rf Fa n) c':=by refine nc ?_ Mb;kernel_rfl)
 (hk:(bk n L.Kd&&L.pe.all fun q=>bk n q.2)=true:=by kernel_rfl)
 (Hi:∀p t,code par Ra env Fa n c (L.sk.fill (L.n p t)) (tX L.Kd (tv L.pe))=L.st _ p t (fun t=>some (.inl (L.sk.fill (L.n p t)))) (fun e=>some (.inr (L.o _ p e Prod.mk))):=by intro _ _;kernel_rfl)
 (WJ:∀u,L.n (L.p u) (L.t u)=u:=by intro _;rfl) (ho:∀Z p e K,L.o Z p e K=K (L.o _ p e Prod.mk).1 (L.o _ p e Prod.mk).2:=by intro _ _ e _;first|rfl|(rcases e with e|e<;>rfl)|(rcases e with e|e|e<;>rfl)|(rcases e with e|e|e|e<;>rfl)|exact nomatch e)
 (hq:∀X s K,env.loop X (qf c) s K=L.q X s K:=by intro _ _ _;kernel_rfl):Kc env.loop (vc par C rf Fa n) (.loop c):=cS Js hc hl L hk Ii Hi WJ ho hq
theorem pO{env Zd:Env}(hc:Gc C env.call)(Nf:Zd.call=env.call){c:Code}{P E:Type}(L:PD P E)(Ii:∀Y p ke,L.st Y p ke=(L.m p).bind ke)
 (hl:∀c'∈loops Zd.join c,Kc Zd.loop (vc par C rf Fa n) c':=by refine nc ?_ Mb;kernel_rfl)
 (hk:(bk n L.Kd&&L.pe.all fun q=>bk n q.2)=true:=by kernel_rfl)
 (Hi:∀u,code par Ra Zd Fa n c (L.sk.fill u) (fun ex s=>(Wp (tv L.pe ex) s).bind fun s=>some (ex,s))=L.st _ (L.p u) (fun e=>some (L.o _ (L.p u) e Prod.mk)):=by intro _;kernel_rfl)
 (ho:∀Z p e K,L.o Z p e K=K (L.o _ p e Prod.mk).1 (L.o _ p e Prod.mk).2:=by intro _ _ e _;first|rfl|(rcases e with e|e<;>rfl)|(rcases e with e|e|e<;>rfl)|(rcases e with e|e|e|e<;>rfl)|exact nomatch e)
 (hq:∀X s K,env.loop X (keyOf c) s K=L.q X s K:=by intro _ _ _;kernel_rfl):Kc env.loop (vc par C rf Fa n) c:=sB Js hc Nf hl L hk Ii Hi ho hq
theorem pN{env Zd:Env}(hc:Gc C env.call)(Nf:Zd.call=env.call){c:Code}{P E:Type}(L:PD P E)(Ii:∀Y p ke,L.st Y p ke=(L.m p).bind ke)(n':P->L.sk.T)
 (hl:∀c'∈loops Zd.join c,Kc Zd.loop (vc par C rf Fa n) c':=by refine nc ?_ Mb;kernel_rfl)
 (hk:(bk n L.Kd&&L.pe.all fun q=>bk n q.2)=true:=by kernel_rfl)
 (Hi:∀p,code par Ra Zd Fa n c (L.sk.fill (n' p)) (fun ex s=>(Wp (tv L.pe ex) s).bind fun s=>some (ex,s))=L.st _ p (fun e=>some (L.o _ p e Prod.mk)):=by intro _;kernel_rfl)
 (WJ:∀u,n' (L.p u)=u:=by intro _;rfl) (ho:∀Z p e K,L.o Z p e K=K (L.o _ p e Prod.mk).1 (L.o _ p e Prod.mk).2:=by intro _ _ e _;first|rfl|(rcases e with e|e<;>rfl)|(rcases e with e|e|e<;>rfl)|(rcases e with e|e|e|e<;>rfl)|exact nomatch e)
 (hq:∀X s K,env.loop X (keyOf c) s K=L.q X s K:=by intro _ _ _;kernel_rfl):Kc env.loop (vc par C rf Fa n) c:=sB Js hc Nf hl L hk Ii (fun u=>by have:=Hi (L.p u);rwa [WJ]at this) ho hq
theorem rO{env:Env}(hc:Gc C env.call){id:Nat}{ks:List Nat}{g:Operand}{ps:Array Tmp}{a b:Code}{P E:Type}(L:PD P E)(Ii:∀Y p ke,L.st Y p ke=(L.m p).bind ke)(FM:ZC.rf id=⟨n,ps.toList,a,b⟩:=by kernel_rfl)
 (hk:(bk n L.Kd&&L.pe.all fun q=>bk n q.2)=true:=by kernel_rfl)
 (Hi:∀u,mJ par Ra env id n ks g (L.sk.fill u) (fun ex s=>(Wp (tv L.pe ex) s).bind fun s=>some (ex,s))=L.st _ (L.p u) (fun e=>some (L.o _ (L.p u) e Prod.mk)):=by intro _;kernel_rfl)
 (ho:∀Z p e K,L.o Z p e K=K (L.o _ p e Prod.mk).1 (L.o _ p e Prod.mk).2:=by intro _ _ e _;first|rfl|(rcases e with e|e<;>rfl)|(rcases e with e|e|e<;>rfl)|(rcases e with e|e|e|e<;>rfl)|exact nomatch e)
 (hq:∀X s K,env.loop X (keyOf (.rangeFunc g ps a b)) s K=L.q X s K:=by intro _ _ _;kernel_rfl):Kc env.loop (vc par C true Fa n) (.rangeFunc g ps a b):=nM Js hc rfl FM L hk Ii Hi ho hq
end
abbrev I8.i:I8:= .v (.int .i64)
abbrev Sk.i:Sk:= .int .i64
abbrev CT.i:CT:= .int .i64
abbrev KT.i:KT:= .int .i64
abbrev I8.p(a b:Nat):I8:= .v (.ptr a b)
def cL:List Sk->Sk
 |[]=> .nil
 |a::l=> .cons a (cL l)
abbrev uW:Sk:= .cons (.int .i64) (.cons (.int .i64) (.cons (.int .i64) (.cons (.int .i64) (.cons (.int .i64) (.cons (.lit (.int .i64)) (.cons (.lit (.slice (.int .i64))) (.cons (.lit (.slice (.int .i64))) .nil)))))))
abbrev zb:Sk:= .cons (.lit Md) (.cons (.int .i64) (.cons (.int .i64) (.cons (.int .i64) (.cons (.lit Nd) (.cons (.lit Qf) (.cons (.lit Nd) (.cons (.lit ya) .nil)))))))
abbrev Kb:Sk:= .cons (.int .i64) (.cons (.int .i64) (.cons (.int .i64) (.cons (.int .i64) (.cons (.int .i64) (.cons (.int .i64) (.cons (.int .i64) (.cons (.int .i64) .nil)))))))
abbrev FB:Sk:= .cons (.int .i64) (.cons (.int .i64) (.cons (.int .i64) (.cons (.int .i64) .nil)))
abbrev Cd:Sk:= .cons (.lit .bool) (.cons (.lit (.pair .bool .bool)) (.cons (.lit ya) .nil))
abbrev Paa:Sk:= .cons .str (.cons (.int .i64) (.cons (.int .i64) (.cons (.int .i64) .nil)))
abbrev W5:Sk:= .cons .str (.cons (.int .i64) (.cons (.int .i64) .nil))
abbrev Eg:Sk:= .cons (.int .i64) (.cons (.int .i64) .nil)
abbrev kr0:Sk:= .cons (.lit Md) (.cons (.int .i64) (.cons (.int .i64) (.cons (.int .i64) (.cons (.lit Nd) (.cons (.lit Qf) (.cons (.lit Nd) (.cons (.lit ya) (.cons (.lit (.int .i64)) (.cons (.int .i64) (.cons (.all 1) (.cons (.int .i64) (.cons (.int .i64) (.cons (.int .i64) (.cons (.int .i64) (.cons (.int .i64) (.cons (.int .i64) (.cons .Ya (.cons (.all 2) (.cons .Ya .nil)))))))))))))))))))
abbrev kr1:Sk:= .cons (.lit Md) (.cons (.int .i64) (.cons (.int .i64) (.cons (.int .i64) (.cons (.lit Nd) (.cons (.lit Qf) (.cons (.lit Nd) (.cons (.lit ya) (.cons (.lit (.int .i64)) (.cons (.int .i64) (.cons (.all 1) (.cons (.int .i64) (.cons (.int .i64) (.cons (.int .i64) (.cons (.int .i64) (.cons (.int .i64) (.cons (.int .i64) (.cons .Ya (.cons .Ya (.cons .Ya .nil)))))))))))))))))))
abbrev zM:Sk:= .cons (.all 2) (.cons (.all 3) (.cons (.all 4) .nil))
abbrev Yp:Sk:= .cons (.lit Md) (.cons (.int .i64) (.cons (.int .i64) (.cons (.int .i64) (.cons (.lit Nd) (.cons (.lit Qf) (.cons (.lit Nd) (.cons (.lit ya) (.cons (.lit (.int .i64)) (.cons (.int .i64) (.cons (.all 1) (.cons (.int .i64) (.cons (.int .i64) (.cons (.int .i64) (.cons (.int .i64) (.cons (.int .i64) (.cons (.int .i64) (.cons .Ya (.cons (.all 2) (.cons (.all 3) .nil)))))))))))))))))))
abbrev RO:Sk:= .cons (.lit Md) (.cons (.int .i64) (.cons (.int .i64) (.cons (.int .i64) (.cons (.lit Nd) (.cons (.lit Qf) (.cons (.lit Nd) (.cons (.lit ya) (.cons (.lit (.int .i64)) (.cons (.int .i64) (.cons (.all 3) (.cons (.int .i64) (.cons (.int .i64) (.cons (.int .i64) (.cons (.int .i64) (.cons (.int .i64) (.cons (.int .i64) (.cons .Ya (.cons (.all 4) (.cons (.all 5) .nil)))))))))))))))))))
abbrev kr6:Sk:= .cons (.lit Md) (.cons (.int .i64) (.cons (.int .i64) (.cons (.int .i64) (.cons (.lit Nd) (.cons (.lit Qf) (.cons (.lit Nd) (.cons (.lit ya) (.cons (.lit (.int .i64)) (.cons (.int .i64) (.cons (.all 8) (.cons (.int .i64) (.cons (.int .i64) (.cons (.int .i64) (.cons (.int .i64) (.cons (.int .i64) (.cons (.int .i64) (.cons .Ya (.cons (.all 9) (.cons (.all 10) .nil)))))))))))))))))))
abbrev iS:Sk:= .cons (.all 3) (.cons (.all 4) (.cons (.all 5) .nil))
abbrev PI:Sk:= .cons (.all 3) (.cons (.all 4) (.cons (.all 6) .nil))
abbrev kr9:Sk:= .cons (.all 5) (.cons (.all 6) (.cons (.all 7) .nil))
abbrev V5:Sk:= .cons (.all 0) (.cons (.all 1) (.cons (.all 2) .nil))
abbrev Vj:Sk:= .cons (.all 1) (.cons (.all 2) (.cons (.all 3) .nil))
abbrev Bu:Sk:= .cons (.all 6) (.cons (.all 7) (.cons (.all 8) .nil))
abbrev sW:Sk:= .cons (.lit Md) (.cons (.int .i64) (.cons (.int .i64) (.cons (.int .i64) (.cons (.lit Nd) (.cons (.lit Qf) (.cons (.lit Nd) (.cons (.lit ya) (.cons (.lit (.int .i64)) (.cons (.int .i64) (.cons (.int .i64) (.cons (.all 1) (.cons (.int .i64) (.cons (.int .i64) (.cons (.int .i64) (.cons (.int .i64) (.cons (.int .i64) (.cons .Ya (.cons (.all 2) (.cons .Ya .nil)))))))))))))))))))
abbrev Oaf:Sk:= .cons (.lit Md) (.cons (.int .i64) (.cons (.int .i64) (.cons (.int .i64) (.cons (.lit Nd) (.cons (.lit Qf) (.cons (.lit Nd) (.cons (.lit ya) (.cons (.lit (.int .i64)) (.cons (.int .i64) (.cons (.int .i64) (.cons (.all 1) (.cons (.int .i64) (.cons (.int .i64) (.cons (.int .i64) (.cons (.int .i64) (.cons (.int .i64) (.cons .Ya (.cons .Ya (.cons .Ya .nil)))))))))))))))))))
abbrev Dd:Sk:= .cons (.lit Md) (.cons (.int .i64) (.cons (.int .i64) (.cons (.int .i64) (.cons (.lit Nd) (.cons (.lit Qf) (.cons (.lit Nd) (.cons (.lit ya) (.cons (.lit (.int .i64)) (.cons (.int .i64) (.cons (.int .i64) (.cons (.all 1) (.cons (.int .i64) (.cons (.int .i64) (.cons (.int .i64) (.cons (.int .i64) (.cons (.int .i64) (.cons .Ya (.cons (.all 2) (.cons (.all 3) .nil)))))))))))))))))))
abbrev IJ:Sk:= .cons (.lit Md) (.cons (.int .i64) (.cons (.int .i64) (.cons (.int .i64) (.cons (.lit Nd) (.cons (.lit Qf) (.cons (.lit Nd) (.cons (.lit ya) (.cons (.lit (.int .i64)) (.cons (.int .i64) (.cons (.int .i64) (.cons (.all 1) (.cons (.int .i64) (.cons (.int .i64) (.cons (.int .i64) (.cons (.int .i64) (.cons (.int .i64) (.cons .Ya (.cons (.all 2) (.cons (.all 4) .nil)))))))))))))))))))
abbrev r3{A0 A1 A2 B R:Type}(x:A0×A1×A2×B)(y:R):A0×A1×A2×R:=(x.1,x.2.1,x.2.2.1,y)
abbrev r4{A0 A1 A2 A3 B R:Type}(x:A0×A1×A2×A3×B)(y:R):A0×A1×A2×A3×R:=(x.1,x.2.1,x.2.2.1,x.2.2.2.1,y)
abbrev r5{A0 A1 A2 A3 A4 B R:Type}(x:A0×A1×A2×A3×A4×B)(y:R):A0×A1×A2×A3×A4×R:=(x.1,x.2.1,x.2.2.1,x.2.2.2.1,x.2.2.2.2.1,y)
abbrev r6{A0 A1 A2 A3 A4 A5 B R:Type}(x:A0×A1×A2×A3×A4×A5×B)(y:R):A0×A1×A2×A3×A4×A5×R:=(x.1,x.2.1,x.2.2.1,x.2.2.2.1,x.2.2.2.2.1,x.2.2.2.2.2.1,y)
abbrev r7{A0 A1 A2 A3 A4 A5 A6 B R:Type}(x:A0×A1×A2×A3×A4×A5×A6×B)(y:R):A0×A1×A2×A3×A4×A5×A6×R:=(x.1,x.2.1,x.2.2.1,x.2.2.2.1,x.2.2.2.2.1,x.2.2.2.2.2.1,x.2.2.2.2.2.2.1,y)
abbrev r8{A0 A1 A2 A3 A4 A5 A6 A7 B R:Type}(x:A0×A1×A2×A3×A4×A5×A6×A7×B)(y:R):A0×A1×A2×A3×A4×A5×A6×A7×R:=(x.1,x.2.1,x.2.2.1,x.2.2.2.1,x.2.2.2.2.1,x.2.2.2.2.2.1,x.2.2.2.2.2.2.1,x.2.2.2.2.2.2.2.1,y)
abbrev r9{A0 A1 A2 A3 A4 A5 A6 A7 A8 B R:Type}(x:A0×A1×A2×A3×A4×A5×A6×A7×A8×B)(y:R):A0×A1×A2×A3×A4×A5×A6×A7×A8×R:=(x.1,x.2.1,x.2.2.1,x.2.2.2.1,x.2.2.2.2.1,x.2.2.2.2.2.1,x.2.2.2.2.2.2.1,x.2.2.2.2.2.2.2.1,x.2.2.2.2.2.2.2.2.1,y)
abbrev Ei{A0 A1 A2 A3 A4 A5 A6 A7 A8 A9 B R:Type}(x:A0×A1×A2×A3×A4×A5×A6×A7×A8×A9×B)(y:R):A0×A1×A2×A3×A4×A5×A6×A7×A8×A9×R:=(x.1,x.2.1,x.2.2.1,x.2.2.2.1,x.2.2.2.2.1,x.2.2.2.2.2.1,x.2.2.2.2.2.2.1,x.2.2.2.2.2.2.2.1,x.2.2.2.2.2.2.2.2.1,x.2.2.2.2.2.2.2.2.2.1,y)
abbrev Ig{A0 A1 A2 A3 A4 A5 A6 A7 A8 A9 ko B R:Type}(x:A0×A1×A2×A3×A4×A5×A6×A7×A8×A9×ko×B)(y:R):A0×A1×A2×A3×A4×A5×A6×A7×A8×A9×ko×R:=(x.1,x.2.1,x.2.2.1,x.2.2.2.1,x.2.2.2.2.1,x.2.2.2.2.2.1,x.2.2.2.2.2.2.1,x.2.2.2.2.2.2.2.1,x.2.2.2.2.2.2.2.2.1,x.2.2.2.2.2.2.2.2.2.1,x.2.2.2.2.2.2.2.2.2.2.1,y)
abbrev Y0:Type:=Ga×(List Int)×Wa
abbrev Y1:Type:=(List Int)×(List Wa)×Int×Int×Ga×Wa
abbrev Y2:Type:=(List Wa)×(List Bb)×(List Xb)×(List Bb)×(List za)
abbrev Y3:Type:=(List Bool)×(List (Bool×Bool))×(List za)
abbrev Y4:Type:=Ga×(List Int)×Int
abbrev Y5:Type:=Int×(List Int)×(List (List Int))
abbrev Y6:Type:=Int×(List (List Int))
abbrev Y7:Type:=Int×Int×Int×(List Bool)×(List (Bool×Bool))×(List za)×Int×(List Wa)×Int×Int×Int×(List Bb)×(List Xb)×(List Bb)×(List za)×(List Int)×(List (List Int))
abbrev Y8:Type:=(List Bool)×(List (Bool×Bool))×Int
abbrev oD:Type:=Int×Int×Int×(List Int)
abbrev Y14:Type:=Int×Int×(List Int)
abbrev Y15:Type:=Int×Int×Int×(List (List Int))
abbrev Y17:Type:=Int×Int×(List (List Int))
abbrev ku:Type:=Wa×(List Wa)×Int×Int×Int×(List Bb)×(List Xb)×(List Bb)×(List za)×(List Int)×Int×Int×Int×Int×Int×Int×Int×(List Int)×(List (List Int))×(List (List Int))
abbrev Y19:Type:=Wa×Int×(List Wa)×Int×Int×Int×(List Bb)×(List Xb)×(List Bb)×(List za)×(List Int)×Int×Int×Int×Int×Int×Int×Int×(List Int)×(List (List Int))×(List (List Int))
abbrev jR:Type:=Wa×Bool×(List Wa)×Int×Int×Int×(List Bb)×(List Xb)×(List Bb)×(List za)×(List Int)×Int×Int×Int×Int×Int×Int×Int×(List Int)×(List (List Int))×(List (List Int))
abbrev Y21:Type:=Int×(List Wa)×Int×Int×Int×(List Bb)×(List Xb)×(List Bb)×(List za)×(List Int)×Int×Int×Int×Int×Int×Int×Int×(List Int)×(List (List Int))×(List (List Int))
abbrev T4:Type:=(List Wa)×Int×Int×Int×(List Bb)×(List Xb)×(List Bb)×(List za)×(List Int)×Int×Int×Int×Int×Int×Int×Int×(List Int)×(List (List Int))×(List (List Int))
abbrev Y23:Type:=Ga×(List Int)×Int×Int×Int×Int×Int×Int×Int×(List Int)×(List (List Int))×(List (List Int))
abbrev Y24:Type:=Ga×(List Int)×Int×Int×(List Bool)×(List (Bool×Bool))×(List za)×Int×Ga
abbrev Y25:Type:=Int×Int×Int×Int×Int×(List Int)×Int×(List Bool)×(List (Bool×Bool))×Int×(List (List Int))×(List (List Int))
abbrev Y26:Type:=Int×(List Bool)×(List (Bool×Bool))×Int×Int×Int×Int×Int×Int×Int×Int×(List Int)×(List (List Int))×(List (List Int))
abbrev Y27:Type:=za×(List za)
abbrev Y28:Type:=uO×(List Bool)×(List (Bool×Bool))×(List za)
abbrev E8:Type:=Pa×(List Bool)×(List (Bool×Bool))×(List za)
abbrev iR:Type:=Int×(List Bool)×(List (Bool×Bool))×(List za)
abbrev Y31:Type:=Ga×(List (List Int))×Int
abbrev Y32:Type:=(List Bool)×(List (Bool×Bool))×(List za)×Int
abbrev Y33:Type:=Int×Int×Int×(Bool×Bool)×Pa
abbrev Y34:Type:=Pa×(List Bool)×(List (Bool×Bool))×(List za)×Int
abbrev Y35:Type:=(List Bool)×(List (Bool×Bool))×(List za)×(List Bool)×(List (Bool×Bool))×(List za)×Bool
abbrev Y36:Type:=(List (Bool×Bool))×((List za)×Bool)
abbrev Y37:Type:=(List Bool)×(List (Bool×Bool))×(List za)×(List Bool)×(List (Bool×Bool))×(List za)
abbrev Y38:Type:=(List (Bool×Bool))×((List za)×Pa)
abbrev Y39:Type:=(List (List Int))×Int
abbrev Y40:Type:=(List Int)×(List Int)
abbrev Y41:Type:=Ga×(List Bool)×(List (Bool×Bool))×(List za)
abbrev Y42:Type:=(List Int)×(List (List Int))
abbrev Y43:Type:=Ga×((List Int)×Int)
abbrev Y44:Type:=Int×Int×Int×Int×Int
abbrev Y45:Type:=Int×Int×Int×Int×Int×(List Int)×(List (List Int))×(List (List Int))
abbrev Y46:Type:=Int×Int×Int×Int
abbrev Y47:Type:=Int×Int×Int×Int×(List Int)×(List (List Int))
abbrev Y48:Type:=Int×Int×Int×Int×(List Int)×(List (List Int))×(List (List Int))
abbrev pG:Type:=(List Int)×(Int×(Int×Ir))
abbrev Y50:Type:=(List (List Int))×(List (List Int))
abbrev Y51:Type:=(List Bool)×(List (Bool×Bool))×(List za)×Int×Int×Int×Int×Int×Int×Int×(List Int)×(List (List Int))×(List (List Int))
abbrev Y52:Type:=Int×(List Bool)×(List (Bool×Bool))
abbrev Y53:Type:=(List Bool)×(List (Bool×Bool))
abbrev Y55:Type:=(List Int)×(List Bool)×(List (Bool×Bool))×(List za)
abbrev Y56:Type:=Ga×(List Pa)×((List Int)×Pa)
abbrev _root_.Prod.t3{A0 A1 A2 A3:Type}(x:A0×A1×A2×A3):A3:=x.2.2.2
abbrev _root_.Prod.t4{A0 A1 A2 A3 A4:Type}(x:A0×A1×A2×A3×A4):A4:=x.2.2.2.2
abbrev _root_.Prod.t5{A0 A1 A2 A3 A4 A5:Type}(x:A0×A1×A2×A3×A4×A5):A5:=x.2.2.2.2.2
abbrev _root_.Prod.t6{A0 A1 A2 A3 A4 A5 A6:Type}(x:A0×A1×A2×A3×A4×A5×A6):A6:=x.2.2.2.2.2.2
abbrev _root_.Prod.t7{A0 A1 A2 A3 A4 A5 A6 A7:Type}(x:A0×A1×A2×A3×A4×A5×A6×A7):A7:=x.2.2.2.2.2.2.2
abbrev _root_.Prod.t8{A0 A1 A2 A3 A4 A5 A6 A7 A8:Type}(x:A0×A1×A2×A3×A4×A5×A6×A7×A8):A8:=x.2.2.2.2.2.2.2.2
abbrev _root_.Prod.t9{A0 A1 A2 A3 A4 A5 A6 A7 A8 A9:Type}(x:A0×A1×A2×A3×A4×A5×A6×A7×A8×A9):A9:=x.2.2.2.2.2.2.2.2.2
abbrev _root_.Prod.t10{A0 A1 A2 A3 A4 A5 A6 A7 A8 A9 ko:Type}(x:A0×A1×A2×A3×A4×A5×A6×A7×A8×A9×ko):ko:=x.2.2.2.2.2.2.2.2.2.2
abbrev _root_.Prod.t11{A0 A1 A2 A3 A4 A5 A6 A7 A8 A9 ko iq:Type}(x:A0×A1×A2×A3×A4×A5×A6×A7×A8×A9×ko×iq):iq:=x.2.2.2.2.2.2.2.2.2.2.2
abbrev _root_.Prod.t12{A0 A1 A2 A3 A4 A5 A6 A7 A8 A9 ko iq Ht:Type}(x:A0×A1×A2×A3×A4×A5×A6×A7×A8×A9×ko×iq×Ht):Ht:=x.2.2.2.2.2.2.2.2.2.2.2.2
abbrev _root_.Prod.t13{A0 A1 A2 A3 A4 A5 A6 A7 A8 A9 ko iq Ht lu:Type}(x:A0×A1×A2×A3×A4×A5×A6×A7×A8×A9×ko×iq×Ht×lu):lu:=x.2.2.2.2.2.2.2.2.2.2.2.2.2
abbrev _root_.Prod.t14{A0 A1 A2 A3 A4 A5 A6 A7 A8 A9 ko iq Ht lu Tu:Type}(x:A0×A1×A2×A3×A4×A5×A6×A7×A8×A9×ko×iq×Ht×lu×Tu):Tu:=x.2.2.2.2.2.2.2.2.2.2.2.2.2.2
abbrev _root_.Prod.t15{A0 A1 A2 A3 A4 A5 A6 A7 A8 A9 ko iq Ht lu Tu jx:Type}(x:A0×A1×A2×A3×A4×A5×A6×A7×A8×A9×ko×iq×Ht×lu×Tu×jx):jx:=x.2.2.2.2.2.2.2.2.2.2.2.2.2.2.2
abbrev _root_.Prod.t16{A0 A1 A2 A3 A4 A5 A6 A7 A8 A9 ko iq Ht lu Tu jx Hz:Type}(x:A0×A1×A2×A3×A4×A5×A6×A7×A8×A9×ko×iq×Ht×lu×Tu×jx×Hz):Hz:=x.2.2.2.2.2.2.2.2.2.2.2.2.2.2.2.2
abbrev _root_.Prod.t17{A0 A1 A2 A3 A4 A5 A6 A7 A8 A9 ko iq Ht lu Tu jx Hz NA:Type}(x:A0×A1×A2×A3×A4×A5×A6×A7×A8×A9×ko×iq×Ht×lu×Tu×jx×Hz×NA):NA:=x.2.2.2.2.2.2.2.2.2.2.2.2.2.2.2.2.2
abbrev _root_.Prod.t18{A0 A1 A2 A3 A4 A5 A6 A7 A8 A9 ko iq Ht lu Tu jx Hz NA qD:Type}(x:A0×A1×A2×A3×A4×A5×A6×A7×A8×A9×ko×iq×Ht×lu×Tu×jx×Hz×NA×qD):qD:=x.2.2.2.2.2.2.2.2.2.2.2.2.2.2.2.2.2.2
abbrev _root_.Prod.t19{A0 A1 A2 A3 A4 A5 A6 A7 A8 A9 ko iq Ht lu Tu jx Hz NA qD rG:Type}(x:A0×A1×A2×A3×A4×A5×A6×A7×A8×A9×ko×iq×Ht×lu×Tu×jx×Hz×NA×qD×rG):rG:=x.2.2.2.2.2.2.2.2.2.2.2.2.2.2.2.2.2.2.2
abbrev _root_.Prod.t20{A0 A1 A2 A3 A4 A5 A6 A7 A8 A9 ko iq Ht lu Tu jx Hz NA qD rG WI:Type}(x:A0×A1×A2×A3×A4×A5×A6×A7×A8×A9×ko×iq×Ht×lu×Tu×jx×Hz×NA×qD×rG×WI):WI:=x.2.2.2.2.2.2.2.2.2.2.2.2.2.2.2.2.2.2.2.2
abbrev _root_.Prod.t21{A0 A1 A2 A3 A4 A5 A6 A7 A8 A9 ko iq Ht lu Tu jx Hz NA qD rG WI NL:Type}(x:A0×A1×A2×A3×A4×A5×A6×A7×A8×A9×ko×iq×Ht×lu×Tu×jx×Hz×NA×qD×rG×WI×NL):NL:=x.2.2.2.2.2.2.2.2.2.2.2.2.2.2.2.2.2.2.2.2.2
abbrev _root_.Prod.t22{A0 A1 A2 A3 A4 A5 A6 A7 A8 A9 ko iq Ht lu Tu jx Hz NA qD rG WI NL nR:Type}(x:A0×A1×A2×A3×A4×A5×A6×A7×A8×A9×ko×iq×Ht×lu×Tu×jx×Hz×NA×qD×rG×WI×NL×nR):nR:=x.2.2.2.2.2.2.2.2.2.2.2.2.2.2.2.2.2.2.2.2.2.2
abbrev _root_.Prod.t23{A0 A1 A2 A3 A4 A5 A6 A7 A8 A9 ko iq Ht lu Tu jx Hz NA qD rG WI NL nR tV:Type}(x:A0×A1×A2×A3×A4×A5×A6×A7×A8×A9×ko×iq×Ht×lu×Tu×jx×Hz×NA×qD×rG×WI×NL×nR×tV):tV:=x.2.2.2.2.2.2.2.2.2.2.2.2.2.2.2.2.2.2.2.2.2.2.2
abbrev _root_.Prod.t24{A0 A1 A2 A3 A4 A5 A6 A7 A8 A9 ko iq Ht lu Tu jx Hz NA qD rG WI NL nR tV W4:Type}(x:A0×A1×A2×A3×A4×A5×A6×A7×A8×A9×ko×iq×Ht×lu×Tu×jx×Hz×NA×qD×rG×WI×NL×nR×tV×W4):W4:=x.2.2.2.2.2.2.2.2.2.2.2.2.2.2.2.2.2.2.2.2.2.2.2.2
abbrev _root_.Prod.t25{A0 A1 A2 A3 A4 A5 A6 A7 A8 A9 ko iq Ht lu Tu jx Hz NA qD rG WI NL nR tV W4 A25:Type}(x:A0×A1×A2×A3×A4×A5×A6×A7×A8×A9×ko×iq×Ht×lu×Tu×jx×Hz×NA×qD×rG×WI×NL×nR×tV×W4×A25):A25:=x.2.2.2.2.2.2.2.2.2.2.2.2.2.2.2.2.2.2.2.2.2.2.2.2.2
abbrev _root_.Prod.t26{A0 A1 A2 A3 A4 A5 A6 A7 A8 A9 ko iq Ht lu Tu jx Hz NA qD rG WI NL nR tV W4 A25 A26:Type}(x:A0×A1×A2×A3×A4×A5×A6×A7×A8×A9×ko×iq×Ht×lu×Tu×jx×Hz×NA×qD×rG×WI×NL×nR×tV×W4×A25×A26):A26:=x.2.2.2.2.2.2.2.2.2.2.2.2.2.2.2.2.2.2.2.2.2.2.2.2.2.2
abbrev _root_.Prod.t27{A0 A1 A2 A3 A4 A5 A6 A7 A8 A9 ko iq Ht lu Tu jx Hz NA qD rG WI NL nR tV W4 A25 A26 A27:Type}(x:A0×A1×A2×A3×A4×A5×A6×A7×A8×A9×ko×iq×Ht×lu×Tu×jx×Hz×NA×qD×rG×WI×NL×nR×tV×W4×A25×A26×A27):A27:=x.2.2.2.2.2.2.2.2.2.2.2.2.2.2.2.2.2.2.2.2.2.2.2.2.2.2.2
abbrev _root_.Prod.t28{A0 A1 A2 A3 A4 A5 A6 A7 A8 A9 ko iq Ht lu Tu jx Hz NA qD rG WI NL nR tV W4 A25 A26 A27 A28:Type}(x:A0×A1×A2×A3×A4×A5×A6×A7×A8×A9×ko×iq×Ht×lu×Tu×jx×Hz×NA×qD×rG×WI×NL×nR×tV×W4×A25×A26×A27×A28):A28:=x.2.2.2.2.2.2.2.2.2.2.2.2.2.2.2.2.2.2.2.2.2.2.2.2.2.2.2.2
abbrev q3{A B C Z:Type}(x:A×B×C×Z):A×B×C:=(x.1,x.2.1,x.2.2.1)
abbrev q4{A B C D Z:Type}(x:A×B×C×D×Z):A×B×C×D:=(x.1,x.2.1,x.2.2.1,x.2.2.2.1)
abbrev q5{A B C D E Z:Type}(x:A×B×C×D×E×Z):A×B×C×D×E:=(x.1,x.2.1,x.2.2.1,x.2.2.2.1,x.2.2.2.2.1)
abbrev q6{A B C D E F Z:Type}(x:A×B×C×D×E×F×Z):A×B×C×D×E×F:=(x.1,x.2.1,x.2.2.1,x.2.2.2.1,x.2.2.2.2.1,x.2.2.2.2.2.1)
abbrev q7{A B C D E F G Z:Type}(x:A×B×C×D×E×F×G×Z):A×B×C×D×E×F×G:=(x.1,x.2.1,x.2.2.1,x.2.2.2.1,x.2.2.2.2.1,x.2.2.2.2.2.1,x.2.2.2.2.2.2.1)
abbrev q8{A B C D E F G H Z:Type}(x:A×B×C×D×E×F×G×H×Z):A×B×C×D×E×F×G×H:=(x.1,x.2.1,x.2.2.1,x.2.2.2.1,x.2.2.2.2.1,x.2.2.2.2.2.1,x.2.2.2.2.2.2.1,x.2.2.2.2.2.2.2.1)
end Go.U
namespace Go.U
open Go Go.Proofs
def Taf(n:Int):ByteArray:=⟨(Lib.itoa n).toArray⟩
def clone{α:Type}(n:Nat)(a:List α):Option (List α):=ask (decide (a.length * n<=70368744177664)&&decide (a.length<9223372036854775808)) (some a)
abbrev Mt:=V.Mt
abbrev qh:=V.qh
abbrev Ci:=V.Ci
def oI(a:Int×Int):Option ByteArray:=ask (decide (-9223372036854775808<=a.1)&&decide (a.1<=9223372036854775807)&&decide (a.2=10)) (some (Taf a.1))
def wz(a:ByteArray×ByteArray):Option (Int×ByteArray):=ask (decide (a.2.size+a.1.size<=70368744177664)) (some (nt a.1.size,a.2++a.1))
def q_(a:ByteArray):Option ByteArray:=some a
def pQ(a:List Bool):Option (List Bool):=clone 1 a
def oQ(a:List (Bool×Bool)):Option (List (Bool×Bool)):=clone 2 a
def nQ(a:List za):Option (List za):=clone 16 a
def GF(a:List za):Option (List za):=ask (decide (a.length<4611686018427387904)) (some (qh a))
def JK(a:List Int):Option (List Int):=ask (decide (a.length<4611686018427387904)) (some (Ci a))
def IF(a:Int×Int×List Int):Option (List Int):=ask (decide (0<=a.1)&&decide (a.1<=a.2.1)&&decide (a.2.1<=a.2.2.length)) (some (a.2.2.take a.1.toNat++a.2.2.drop a.2.1.toNat))
def k_:FS ((List Bool)) ((List Bool))where
 sk:=⟨(.cons (.all 0) .nil),[.cells .bool],1⟩
 a:=fun u=>u.2.1
 o:=fun Z a r K=>K (.all 1) ⟨[.cells .bool a,.cells .bool r],1⟩
def wN:Spec:=k_.sp pQ
def j_:FS ((List (Bool×Bool))) ((List (Bool×Bool)))where
 sk:=⟨(.cons (.all 0) .nil),[.cells (.pair .bool .bool)],1⟩
 a:=fun u=>u.2.1
 o:=fun Z a r K=>K (.all 1) ⟨[.cells (.pair .bool .bool) a,.cells (.pair .bool .bool) r],1⟩
def vN:Spec:=j_.sp oQ
def i_:FS ((List za)) ((List za))where
 sk:=⟨(.cons (.all 0) .nil),[.cells ya],1⟩
 a:=fun u=>u.2.1
 o:=fun Z a r K=>K (.all 1) ⟨[.cells ya a,.cells ya r],1⟩
def uN:Spec:=i_.sp nQ
def f_:FS ((List za)) ((List za))where
 sk:=⟨(.cons (.all 0) (.cons (.fn 52 .nil) .nil)),[.cells ya],0⟩
 a:=fun u=>u.2.1
 o:=fun Z a r K=>K (.Qc []) ⟨[.cells ya r],0⟩
def oN:Spec:=f_.sp GF
def m_:FS (Int×Int×(List Int)) ((List Int))where
 sk:=⟨(.cons (.all 0) (.cons (.int .i64) (.cons (.int .i64) .nil))),[.cells (.int .i64)],0⟩
 a:=fun u=>(u.1.2.1,u.1.2.2.1,u.2.1)
 o:=fun Z a r K=>K (.all 1) ⟨[.dead,.cells (.int .i64) r],0⟩
def NZ:Spec:=m_.sp IF
def l_:FS ((List Int)) ((List Int))where
 sk:=⟨(.cons (.all 0) .nil),[.cells (.int .i64)],0⟩
 a:=fun u=>u.2.1
 o:=fun Z a r K=>K (.Qc []) ⟨[.cells (.int .i64) r],0⟩
def MZ:Spec:=l_.sp JK
def D2:FS (Int×Int) (ByteArray)where
 sk:=⟨(.cons (.int .i64) (.cons (.int .i64) .nil)),[],0⟩
 a:=fun u=>(u.1.1,u.1.2.1)
 o:=fun Z a r K=>K (.str r) ⟨[],0⟩
def WQ:Spec:=D2.sp oI
def t_:FS (ByteArray×ByteArray) (Int×ByteArray)where
 sk:=⟨(.cons (.ptr 0 0) (.cons .str .nil)),[.Mm (.all 1),.Rp],0⟩
 a:=fun u=>(u.1.2.1,u.2.2.1)
 o:=fun Z a r K=>K (.Qc [.int .i64 r.1,.Sg]) ⟨[.Mm (.all 2),.dead,.Rp r.2],0⟩
def u0:Spec:=t_.sp wz
def p_:FS (ByteArray) (ByteArray)where
 sk:=⟨(.cons (.ptr 0 0) .nil),[.Mm (.all 1),.Rp],0⟩
 a:=fun u=>u.2.2.1
 o:=fun Z a r K=>K (.str r) ⟨[.Mm (.all 1),.dead],0⟩
def VZ:Spec:=p_.sp q_
theorem X7:OK 1 103 WQ:=fun k hk=>by
 obtain⟨j,rfl⟩:∃j,k=j+1:=⟨k-1,by omega⟩;refine R6 (A:=par) (f:=103) rfl fun X args H K out h=> ?_
 obtain⟨u,hu,h⟩:=aa.1 (show(D2.sk.take args H).bind _=some out from h);obtain⟨h1,h2⟩:=MA.xd hu;obtain⟨⟨n,b,⟨⟩⟩,⟨⟩⟩:=u;have key:∀n b:Int,(oI (n,b)).bind (fun r=>K (.str r) ⟨[],0⟩)=some out->(-9223372036854775808<=n/\n<=9223372036854775807/\b=10)/\K (.str ⟨(Lib.itoa n).toArray⟩) ⟨[],0⟩=some out:=fun n b h'=>by
  simp only[oI,ask]at h';by_cases e1: -9223372036854775808<=n<;>by_cases e2:n<=9223372036854775807<;>by_cases e3:b=10<;>simp[e1,e2,e3]at h'
  exact⟨⟨e1,e2,e3⟩,h'⟩
 exact⟨n,b,h1.symm,h2.symm,key n b h⟩
theorem gad:OK 1 41 VZ:=fun k hk=>by
 obtain⟨j,rfl⟩:∃j,k=j+1:=⟨k-1,by omega⟩;refine EV (A:=par) (f:=41) rfl fun X args H K out h=> ?_
 obtain⟨u,hu,h⟩:=aa.1 (show(p_.sk.take args H).bind _=some out from h);obtain⟨h1,h2⟩:=MA.xd hu;obtain⟨⟨⟨⟩,⟨⟩⟩,⟨⟨⟩,s,⟨⟩⟩⟩:=u;exact⟨s,h1.symm,h2.symm,h⟩
theorem saf:F8 par #[72,9]:=⟨72,9,rfl,by kernel_rfl,by kernel_rfl,by kernel_rfl,by kernel_rfl,by kernel_rfl⟩
theorem taf:par.fns 38=some Tryz.f38:=by kernel_rfl
theorem kaa:par.ext 38=none:=by kernel_rfl
theorem B5(k:Nat):R3 par (k+2) 38 #[72,9]:=fun H x p q v t H2 h2 h3 hw ha h4 h5 h6=>by
 have Wz:V.call par (k+1) (.fn 67 []) [.ptr x 0 0] H=some (.Qc [],V.Sa H x (.cells [[.ptr x 0 0,q]] 2 (some (74,2)))):=by
  have e:V.call par (k+1) (.fn 67 []) [.ptr x 0 0] H=V.y8 74 [.ptr x 0 0] H:=rfl;rw[e];have hx:H.bl[x]?=some (.cells [[p,q]] 2 (some (74,2))):=h2;simp only[V.y8,hx];rw[if_pos ⟨trivial,hw,by rcases h3 with rfl|rfl<;>simp[V.okp]⟩]
 have ht1:V.elem? par 72=some 5:=by kernel_rfl
 have e71:par.P.underlying 71=some (.pointer 74):=Tryz.underlying71;have EL:x<H.bl.length:=by obtain⟨h,_⟩:=List.getElem?_eq_some_iff.1 h2;exact h
 obtain⟨fd,YJ,hfo,hft⟩:∃fd,V.field? par 74 1=some fd/\fd.offset=1/\fd.type=72:=by
  have h:(V.field? par 74 1).map (fun fd=>(fd.offset,fd.type))=some (1,72):=by kernel_rfl
  cases h':V.field? par 74 1 with
  |none=>rw[h']at h;cases h
  |some fd=>rw[h']at h;simp at h;exact⟨fd,rfl,h.1,h.2⟩
 have se:V.size par 72=some 1:=by kernel_rfl
 have CD:par.P.underlying 9=some .string:=Tryz.underlying9;have hb:(V.Sa H x (.cells [[.ptr x 0 0,q]] 2 (some (74,2)))).bl[x]?=some (.cells [[.ptr x 0 0,q]] 2 (some (74,2))):=by rw[Ac,if_pos rfl,if_pos EL]
 have Zp:par.loc 38=[]:=by kernel_rfl
 have Ot:par.pV 38=false:=by kernel_rfl
 generalize V.Sa H x (.cells [[.ptr x 0 0,q]] 2 (some (74,2)))=H1 at *
 unfold V.call;rw[kaa,taf];have hag:V.isAgg par 72=some false:=by kernel_rfl
 have YW:v.cells?=some [v]:=by cases v<;>first|rfl|simp[V.AV.XO]at h6
 have CL:∀(call:V.Callee)(Fa:List Nat)(n:Nat)(os:Array Oper)(s:V.S),V.region par call Fa n os false s=V.ops par call Fa n os os.toList s:=fun _ _ _ _ _=>rfl
 simp[Tryz.f38,Zp,Ot,V.code,CL,V.ops,V.Vc,V.op,V.operand,V.val,V.put,V.get,V.dh,V.ue,V.zh,V.Sf,Wz,V.Ae,YJ,hfo,hft,se,V.Lg,V.load,V.rowAt,hb,V.part,V.builtin,ha,V.store,h4,h5,hw,h6,YW,hag,V.yf,CD,V.results,V.result]
theorem kad:OK 2 38 u0:=fun k hk=>by
 obtain⟨j,rfl⟩:∃j,k=j+2:=⟨k-2,by omega⟩;refine x5 (A:=par) (k:=j+1) (f:=38) saf (B5 j) (fun X args H K out h=> ?_) (fun cs vs H=>by unfold V.call;simp only[zi]);obtain⟨u,hu,h⟩:=aa.1 (show(t_.sk.take args H).bind _=some out from h);obtain⟨h1,h2⟩:=MA.xd hu;obtain⟨⟨⟨⟩,t,⟨⟩⟩,⟨⟨⟩,s,⟨⟩⟩⟩:=u;have key:∀s t:ByteArray,(wz (t,s)).bind (fun r=>K (.Qc [.int .i64 r.1,.Sg]) ⟨[.Mm (.all 2),.dead,.Rp r.2],0⟩)=some out->s.size+t.size<=70368744177664/\K (.Qc [.int .i64 t.size,.Sg]) ⟨[.Mm (.all 2),.dead,.Rp (s++t)],0⟩=some out:=fun s t h'=>by
  simp only[wz,ask]at h';by_cases e1:s.size+t.size<=70368744177664<;>simp[e1]at h'
  exact⟨e1,h'⟩
 obtain⟨k1,k2⟩:=key s t h;exact⟨s,t,h1.symm,h2.symm,k1,k2⟩
theorem Hy{α X:Type}{n:Nat}{l:List α}{g:List α->Option X}{out:X}(h:(clone n l).bind g=some out):(l.length * n<=70368744177664/\l.length<9223372036854775808)/\g l=some out:=by
 unfold clone at h;by_cases e1:l.length * n<=70368744177664<;>by_cases e2:l.length<9223372036854775808<;>simp[ask,e1,e2]at h
 exact⟨⟨e1,e2⟩,h⟩
theorem wam(k:Nat):Gt par (k+1) 47 .bool 1:=by
 have Zp:par.loc 47=[]:=by kernel_rfl
 have Ot:par.pV 47=false:=by kernel_rfl
 have aq:par.ext 47=none:=by kernel_rfl
 have mo:par.fns 47=some Tryz.f47:=by kernel_rfl
 obtain⟨e,z,he,hz,nA,se,N4⟩:∃e z,V.elem? par 33=some e/\V.zero par e=some z/\z.length=1/\V.size par e=some 1/\V.bytes par e=some 1:=⟨4,[.bool false],by kernel_rfl,by kernel_rfl,rfl,by kernel_rfl,by kernel_rfl⟩;have hu:par.P.underlying 33=some (.slice e):=by
  have:=V.uj he;exact this
 have CL:∀(call:V.Callee)(Fa:List Nat)(n:Nat)(os:Array Oper)(s:V.S),V.region par call Fa n os false s=V.ops par call Fa n os os.toList s:=fun _ _ _ _ _=>rfl
 have Np:∀H:V.AH,V.buildSlice par H 33 0 []=some (.Pd,H):=fun H=>by
  simp[V.buildSlice,he,hz,nA,se]
 have dK:∀(H:V.AH)(x y:V.AV),V.rowsOf H x=some []->V.rowsOf H y=some []->(∀s,y≠ .str s)->V.append par H #[33,33] x y=some (x,H):=fun H x y h1 h2 h3=>by
  cases y<;>first|exact absurd rfl (h3 _)|simp[V.append,he,hz,N4,nA,se,hu,h1,h2]
 have q1:V.Fg par 33 .Ya .Ya=some true:=by simp[V.Fg,hu]
 have q2:V.Fg par 33 .Pd .Ya=some false:=by simp[V.Fg,hu]
 have q3:∀x r n,V.Fg par 33 (.sl x r n) .Ya=some false:=fun x r n=>by simp[V.Fg,hu]
 refine⟨fun H=> ?_,fun H=> ?_,fun H x rows ty hx=> ?_,fun H x n rows ty hx h0 hn gg hb tc=> ?_⟩
 ·unfold V.call;rw[aq,mo];simp[Tryz.f47,Zp,Ot,V.code,CL,V.ops,V.Vc,V.op,V.operand,V.val,V.put,V.get,V.ue,V.zh,V.Sf,V.Ae,V.results,V.result,V.binop,q1]
 ·have ha:=dK H .Pd .Pd rfl rfl (fun s e=>by cases e);unfold V.call;rw[aq,mo];simp[Tryz.f47,Zp,Ot,V.code,CL,V.ops,V.Vc,V.op,V.operand,V.val,V.dh,V.parts,V.put,V.get,V.ue,V.zh,V.Sf,V.Ae,V.results,V.result,V.binop,V.builtin,Np,V.Nn,q2,ha]
 ·have ha:=dK H .Pd (.sl x 0 0) rfl (by simp[V.rowsOf,hx]) (fun s e=>by cases e);unfold V.call;rw[aq,mo];simp[Tryz.f47,Zp,Ot,V.code,CL,V.ops,V.Vc,V.op,V.operand,V.val,V.dh,V.parts,V.put,V.get,V.ue,V.zh,V.Sf,V.Ae,V.results,V.result,V.binop,V.builtin,Np,V.Nn,q3,ha]
 ·have ha:V.append par H #[33,33] .Pd (.sl x 0 n)=some (.sl H.bl.length 0 n,V.push H (.cells (rows.take n) 1 (some (e,1)))):=by
   have hl:(rows.take n).length=n:=by simp;omega
   have hr:V.rowsOf H (.sl x 0 n)=some (rows.take n):=by simp[V.rowsOf,hx,hn]
   simp only[V.append,ec,Ge,We,ga,he,hz,N4,nA,se,hu,hr,show V.rowsOf H .Pd=some []from rfl,Ng,Qe,hl];rw[if_pos ⟨hb,tc,by decide,trivial,gg⟩,if_neg (by omega)]
  refine⟨some (e,1),?_⟩;unfold V.call;rw[aq,mo];simp[Tryz.f47,Zp,Ot,V.code,CL,V.ops,V.Vc,V.op,V.operand,V.val,V.dh,V.parts,V.put,V.get,V.ue,V.zh,V.Sf,V.Ae,V.results,V.result,V.binop,V.builtin,Np,V.Nn,q3,ha,width]
theorem LZ:OK 1 47 wN:=fun k hk=>by
 obtain⟨j,rfl⟩:∃j,k=j+1:=⟨k-1,by omega⟩;refine Mu (A:=par) (k:=j) (f:=47) (wam j) (fun cs vs H=>by unfold V.call;simp only[zi]) fun X args H K out h=> ?_
 obtain⟨u,hu,h⟩:=aa.1 (show(k_.sk.take args H).bind _=some out from h);obtain⟨h1,h2⟩:=MA.xd hu;obtain⟨⟨⟨⟩,⟨⟩⟩,⟨l,⟨⟩⟩⟩:=u;obtain⟨k1,k2⟩:=Hy (n:=1) (l:=(l:List Bool)) (g:=fun r=>K (.all 1) ⟨[.cells .bool l,.cells .bool r],1⟩) h;exact⟨l,h1.symm,h2.symm,k1,k2⟩
theorem vam(k:Nat):Gt par (k+1) 48 (.pair .bool .bool) 2:=by
 have Zp:par.loc 48=[]:=by kernel_rfl
 have Ot:par.pV 48=false:=by kernel_rfl
 have aq:par.ext 48=none:=by kernel_rfl
 have mo:par.fns 48=some Tryz.f48:=by kernel_rfl
 obtain⟨e,z,he,hz,nA,se,N4⟩:∃e z,V.elem? par 34=some e/\V.zero par e=some z/\z.length=2/\V.size par e=some 2/\V.bytes par e=some 2:=⟨43,[.bool false,.bool false],by kernel_rfl,by kernel_rfl,rfl,by kernel_rfl,by kernel_rfl⟩;have hu:par.P.underlying 34=some (.slice e):=by
  have:=V.uj he;exact this
 have CL:∀(call:V.Callee)(Fa:List Nat)(n:Nat)(os:Array Oper)(s:V.S),V.region par call Fa n os false s=V.ops par call Fa n os os.toList s:=fun _ _ _ _ _=>rfl
 have Np:∀H:V.AH,V.buildSlice par H 34 0 []=some (.Pd,H):=fun H=>by
  simp[V.buildSlice,he,hz,nA,se]
 have dK:∀(H:V.AH)(x y:V.AV),V.rowsOf H x=some []->V.rowsOf H y=some []->(∀s,y≠ .str s)->V.append par H #[34,34] x y=some (x,H):=fun H x y h1 h2 h3=>by
  cases y<;>first|exact absurd rfl (h3 _)|simp[V.append,he,hz,N4,nA,se,hu,h1,h2]
 have q1:V.Fg par 34 .Ya .Ya=some true:=by simp[V.Fg,hu]
 have q2:V.Fg par 34 .Pd .Ya=some false:=by simp[V.Fg,hu]
 have q3:∀x r n,V.Fg par 34 (.sl x r n) .Ya=some false:=fun x r n=>by simp[V.Fg,hu]
 refine⟨fun H=> ?_,fun H=> ?_,fun H x rows ty hx=> ?_,fun H x n rows ty hx h0 hn gg hb tc=> ?_⟩
 ·unfold V.call;rw[aq,mo];simp[Tryz.f48,Zp,Ot,V.code,CL,V.ops,V.Vc,V.op,V.operand,V.val,V.put,V.get,V.ue,V.zh,V.Sf,V.Ae,V.results,V.result,V.binop,q1]
 ·have ha:=dK H .Pd .Pd rfl rfl (fun s e=>by cases e);unfold V.call;rw[aq,mo];simp[Tryz.f48,Zp,Ot,V.code,CL,V.ops,V.Vc,V.op,V.operand,V.val,V.dh,V.parts,V.put,V.get,V.ue,V.zh,V.Sf,V.Ae,V.results,V.result,V.binop,V.builtin,Np,V.Nn,q2,ha]
 ·have ha:=dK H .Pd (.sl x 0 0) rfl (by simp[V.rowsOf,hx]) (fun s e=>by cases e);unfold V.call;rw[aq,mo];simp[Tryz.f48,Zp,Ot,V.code,CL,V.ops,V.Vc,V.op,V.operand,V.val,V.dh,V.parts,V.put,V.get,V.ue,V.zh,V.Sf,V.Ae,V.results,V.result,V.binop,V.builtin,Np,V.Nn,q3,ha]
 ·have ha:V.append par H #[34,34] .Pd (.sl x 0 n)=some (.sl H.bl.length 0 n,V.push H (.cells (rows.take n) 2 (some (e,1)))):=by
   have hl:(rows.take n).length=n:=by simp;omega
   have hr:V.rowsOf H (.sl x 0 n)=some (rows.take n):=by simp[V.rowsOf,hx,hn]
   simp only[V.append,ec,Ge,We,ga,he,hz,N4,nA,se,hu,hr,show V.rowsOf H .Pd=some []from rfl,Ng,Qe,hl];rw[if_pos ⟨hb,tc,by decide,trivial,gg⟩,if_neg (by omega)]
  refine⟨some (e,1),?_⟩;unfold V.call;rw[aq,mo];simp[Tryz.f48,Zp,Ot,V.code,CL,V.ops,V.Vc,V.op,V.operand,V.val,V.dh,V.parts,V.put,V.get,V.ue,V.zh,V.Sf,V.Ae,V.results,V.result,V.binop,V.builtin,Np,V.Nn,q3,ha,width]
theorem KZ:OK 1 48 vN:=fun k hk=>by
 obtain⟨j,rfl⟩:∃j,k=j+1:=⟨k-1,by omega⟩;refine Mu (A:=par) (k:=j) (f:=48) (vam j) (fun cs vs H=>by unfold V.call;simp only[zi]) fun X args H K out h=> ?_
 obtain⟨u,hu,h⟩:=aa.1 (show(j_.sk.take args H).bind _=some out from h);obtain⟨h1,h2⟩:=MA.xd hu;obtain⟨⟨⟨⟩,⟨⟩⟩,⟨l,⟨⟩⟩⟩:=u;obtain⟨k1,k2⟩:=Hy (n:=2) (l:=(l:List (Bool×Bool))) (g:=fun r=>K (.all 1) ⟨[.cells (.pair .bool .bool) l,.cells (.pair .bool .bool) r],1⟩) h;exact⟨l,h1.symm,h2.symm,k1,k2⟩
theorem uam(k:Nat):Gt par (k+1) 49 ya 16:=by
 have Zp:par.loc 49=[]:=by kernel_rfl
 have Ot:par.pV 49=false:=by kernel_rfl
 have aq:par.ext 49=none:=by kernel_rfl
 have mo:par.fns 49=some Tryz.f49:=by kernel_rfl
 obtain⟨e,z,he,hz,nA,se,N4⟩:∃e z,V.elem? par 35=some e/\V.zero par e=some z/\z.length=2/\V.size par e=some 2/\V.bytes par e=some 16:=⟨59,[.int .i64 0,.int .i64 0],by kernel_rfl,by kernel_rfl,rfl,by kernel_rfl,by kernel_rfl⟩;have hu:par.P.underlying 35=some (.slice e):=by
  have:=V.uj he;exact this
 have CL:∀(call:V.Callee)(Fa:List Nat)(n:Nat)(os:Array Oper)(s:V.S),V.region par call Fa n os false s=V.ops par call Fa n os os.toList s:=fun _ _ _ _ _=>rfl
 have Np:∀H:V.AH,V.buildSlice par H 35 0 []=some (.Pd,H):=fun H=>by
  simp[V.buildSlice,he,hz,nA,se]
 have dK:∀(H:V.AH)(x y:V.AV),V.rowsOf H x=some []->V.rowsOf H y=some []->(∀s,y≠ .str s)->V.append par H #[35,35] x y=some (x,H):=fun H x y h1 h2 h3=>by
  cases y<;>first|exact absurd rfl (h3 _)|simp[V.append,he,hz,N4,nA,se,hu,h1,h2]
 have q1:V.Fg par 35 .Ya .Ya=some true:=by simp[V.Fg,hu]
 have q2:V.Fg par 35 .Pd .Ya=some false:=by simp[V.Fg,hu]
 have q3:∀x r n,V.Fg par 35 (.sl x r n) .Ya=some false:=fun x r n=>by simp[V.Fg,hu]
 refine⟨fun H=> ?_,fun H=> ?_,fun H x rows ty hx=> ?_,fun H x n rows ty hx h0 hn gg hb tc=> ?_⟩
 ·unfold V.call;rw[aq,mo];simp[Tryz.f49,Zp,Ot,V.code,CL,V.ops,V.Vc,V.op,V.operand,V.val,V.put,V.get,V.ue,V.zh,V.Sf,V.Ae,V.results,V.result,V.binop,q1]
 ·have ha:=dK H .Pd .Pd rfl rfl (fun s e=>by cases e);unfold V.call;rw[aq,mo];simp[Tryz.f49,Zp,Ot,V.code,CL,V.ops,V.Vc,V.op,V.operand,V.val,V.dh,V.parts,V.put,V.get,V.ue,V.zh,V.Sf,V.Ae,V.results,V.result,V.binop,V.builtin,Np,V.Nn,q2,ha]
 ·have ha:=dK H .Pd (.sl x 0 0) rfl (by simp[V.rowsOf,hx]) (fun s e=>by cases e);unfold V.call;rw[aq,mo];simp[Tryz.f49,Zp,Ot,V.code,CL,V.ops,V.Vc,V.op,V.operand,V.val,V.dh,V.parts,V.put,V.get,V.ue,V.zh,V.Sf,V.Ae,V.results,V.result,V.binop,V.builtin,Np,V.Nn,q3,ha]
 ·have ha:V.append par H #[35,35] .Pd (.sl x 0 n)=some (.sl H.bl.length 0 n,V.push H (.cells (rows.take n) 2 (some (e,1)))):=by
   have hl:(rows.take n).length=n:=by simp;omega
   have hr:V.rowsOf H (.sl x 0 n)=some (rows.take n):=by simp[V.rowsOf,hx,hn]
   simp only[V.append,ec,Ge,We,ga,he,hz,N4,nA,se,hu,hr,show V.rowsOf H .Pd=some []from rfl,Ng,Qe,hl];rw[if_pos ⟨hb,tc,by decide,trivial,gg⟩,if_neg (by omega)]
  refine⟨some (e,1),?_⟩;unfold V.call;rw[aq,mo];simp[Tryz.f49,Zp,Ot,V.code,CL,V.ops,V.Vc,V.op,V.operand,V.val,V.dh,V.parts,V.put,V.get,V.ue,V.zh,V.Sf,V.Ae,V.results,V.result,V.binop,V.builtin,Np,V.Nn,q3,ha,width]
theorem JZ:OK 1 49 uN:=fun k hk=>by
 obtain⟨j,rfl⟩:∃j,k=j+1:=⟨k-1,by omega⟩;refine Mu (A:=par) (k:=j) (f:=49) (uam j) (fun cs vs H=>by unfold V.call;simp only[zi]) fun X args H K out h=> ?_
 obtain⟨u,hu,h⟩:=aa.1 (show(i_.sk.take args H).bind _=some out from h);obtain⟨h1,h2⟩:=MA.xd hu;obtain⟨⟨⟨⟩,⟨⟩⟩,⟨l,⟨⟩⟩⟩:=u;obtain⟨k1,k2⟩:=Hy (n:=16) (l:=(l:List za)) (g:=fun r=>K (.all 1) ⟨[.cells ya l,.cells ya r],1⟩) h;exact⟨l,h1.symm,h2.symm,k1,k2⟩
theorem aad:OK 1 46 MZ:=fun k hk=>by
 obtain⟨j,rfl⟩:∃j,k=j+1:=⟨k-1,by omega⟩;refine fM (A:=par) (k:=j) (f:=46) (Wl:=V.Ci) V.Dx rfl fun X args H K out h=> ?_
 obtain⟨u,hu,h⟩:=aa.1 (show(l_.sk.take args H).bind _=some out from h);obtain⟨h1,h2⟩:=MA.xd hu;obtain⟨⟨⟨⟩,⟨⟩⟩,⟨l,⟨⟩⟩⟩:=u;have key:∀l:List Int,(JK l).bind (fun r=>K (.Qc []) ⟨[.cells cI r],0⟩)=some out->l.length<4611686018427387904/\K (.Qc []) ⟨[.cells cI (Ci l)],0⟩=some out:=fun l h'=>by
  simp only[JK,ask]at h';by_cases e1:l.length<4611686018427387904<;>simp[e1]at h'
  exact⟨e1,h'⟩
 obtain⟨k1,k2⟩:=key l h;exact⟨l,h1.symm,h2.symm,k1,k2⟩
theorem IZ:OK 1 51 oN:=fun k hk=>by
 obtain⟨j,rfl⟩:∃j,k=j+1:=⟨k-1,by omega⟩;refine dM (A:=par) (k:=j) (f:=51) (Wl:=V.qh) V.TE rfl fun X args H K out h=> ?_
 obtain⟨u,hu,h⟩:=aa.1 (show(f_.sk.take args H).bind _=some out from h);obtain⟨h1,h2⟩:=MA.xd hu;obtain⟨⟨⟨⟩,⟨⟨⟩,⟨⟩⟩⟩,⟨l,⟨⟩⟩⟩:=u;have key:∀l:List za,(GF l).bind (fun r=>K (.Qc []) ⟨[.cells ya r],0⟩)=some out->l.length<4611686018427387904/\K (.Qc []) ⟨[.cells ya (qh l)],0⟩=some out:=fun l h'=>by
  simp only[GF,ask]at h';by_cases e1:l.length<4611686018427387904<;>simp[e1]at h'
  exact⟨e1,h'⟩
 obtain⟨k1,k2⟩:=key l h;exact⟨l,h1.symm,h2.symm,k1,k2⟩
theorem cad:OK 1 45 NZ:=fun k hk=>by
 obtain⟨j,rfl⟩:∃j,k=j+1:=⟨k-1,by omega⟩;refine U2 (A:=par) (k:=j) (f:=45) rfl fun X args H K out h=> ?_
 obtain⟨u,hu,h⟩:=aa.1 (show(m_.sk.take args H).bind _=some out from h);obtain⟨h1,h2⟩:=MA.xd hu;obtain⟨⟨⟨⟩,x,y,⟨⟩⟩,⟨l,⟨⟩⟩⟩:=u;have key:∀(x y:Int)(l:List Int),(IF (x,y,l)).bind (fun r=>K (.all 1) ⟨[.dead,.cells cI r],0⟩)=some out->(0<=x/\x<=y/\y<=l.length)/\K (.all 1) ⟨[.dead,.cells cI (l.take x.toNat++l.drop y.toNat)],0⟩=some out:=fun x y l h'=>by
  simp only[IF,ask]at h';by_cases e1:0<=x<;>by_cases e2:x<=y<;>by_cases e3:y<=l.length<;>simp[e1,e2,e3]at h'
  exact⟨⟨e1,e2,e3⟩,h'⟩
 obtain⟨k1,k2⟩:=key x y l h;exact⟨l,x,y,h1.symm,h2.symm,k1,k2⟩
end Go.U
section
set_option maxRecDepth 100000
namespace Go.U
open Go Go.Proofs
noncomputable section
variable {C:V.Callee}
def c_:FS (Int) (Bool)where
 sk:=⟨(.cons .i .nil),[],0⟩
 a:=fun u=>u.1.1
 o:=fun Z a r K=>kv K (.bool) [] 0 r ()
def IK{X:Type}(a:Int)(K:Bool->Option X):Option X:=
 cond (decide ((1:Int)<=a))
 (K (decide (a<=(3:Int))))
 (K false)
def gu:=fun a=>IK a some
def Tac:Spec:=c_.sp gu
noncomputable def Vah:Env:=eE [] (mb []) qN
theorem Uac:OK (1) 58 (c_.sp gu):=
 fO (d:=0) (env:=Vah) (Da cn) (fn:=Tryz.f58) (mc:=@IK) (by intros;simp only[gu,IK,nn])
def b_:FS (Int) (Int)where
 sk:=⟨(.cons .i .nil),[],0⟩
 a:=fun u=>u.1.1
 o:=fun Z a r K=>kv K .i [] 0 r ()
def HK{X:Type}(a:Int)(K:Int->Option X):Option X:=
 cond (decide (a=(1:Int)))
 (K (-128))
 (cond (decide (a=(2:Int)))
 (K (-32768))
 (K (-2147483648)))
def Pp:=fun a=>HK a some
def kN:Spec:=b_.sp Pp
noncomputable def Uah:Env:=eE [] (mb []) qN
theorem lN:OK (1) 59 (b_.sp Pp):=
 fO (d:=0) (env:=Uah) (Da cn) (fn:=Tryz.f59) (mc:=@HK) (by intros;simp only[Pp,HK,nn])
def a_:FS (Int) (Int)where
 sk:=⟨(.cons .i .nil),[],0⟩
 a:=fun u=>u.1.1
 o:=fun Z a r K=>kv K .i [] 0 r ()
def GK{X:Type}(a:Int)(K:Int->Option X):Option X:=
 (Pp a).bind fun r1=>
 K (Ea ((Ea ((0:Int)-r1))-(1:Int)))
def Pq:=fun a=>GK a some
def uZ:Spec:=a_.sp Pq
noncomputable def Tah:Env:=eE [] (mb [(59,kN)]) qN
theorem vZ:OK (2) 60 (a_.sp Pq):=
 fO (d:=1) (env:=Tah) (Da (cc lN cn)) (fn:=Tryz.f60) (mc:=@GK) (by intros;simp only[Pq,GK,nn])
def E_:FS (Ga) (Bool)where
 sk:=⟨(.cons (.agg zb) .nil),[],0⟩
 a:=fun u=>(q8 u.1.1)
 o:=fun Z a r K=>kv K (.bool) [] 0 r ()
def Wq:LD ((List za)×Int×Ga) (Int) ((Unit) ⊕ (Unit))where
 sk:=⟨[(1,.loc 0 0),(52,.v (.lit ya)),(53,.i),(54,.i)],[zb],[],0,0⟩
 p:=fun u=>(u.1.1,u.1.2.1,u.2.1.1.1,(q7 u.2.1.1.2))
 t:=fun u=>u.1.2.2.1
 n:=fun p t=>((p.1,p.2.1,t,()),((r7 p.2.2 (p.t9,())),()),())
 st:=fun Y p t ki ke=>cond (decide (t<p.2.1))
  (ask (V.ja t (da p.1)) (cond (decide ((gx p.1 (fa t) vb).2<(0:Int)))
  (ke (.inl ()))
  (cond (decide ((62:Int)<(gx p.1 (fa t) vb).2))
  (ke (.inl ()))
  (cond (!(decide ((Int.tmod (gx p.1 (fa t) vb).2 2)=(0:Int))))
  (ke (.inl ()))
  (ki ((Ea (t+(1:Int)))))))))
  (ke (.inr (())))
 o:=fun Z p e K=>Sum.elim (fun e=>so K (.ret) ⟨[(2,.v .bool)],[],[],0,0⟩ ((false,()),(),())) (fun e=>so K (.exit 0) ⟨[(1,.loc 0 0)],[zb],[],0,0⟩ ((),((r7 p.2.2 (p.t9,())),()),())) e
 Kd:=⟨[1,52,53,54],[],[],[]⟩
 pe:=[(.ret,⟨[2],[],[],[]⟩),(.exit 0,⟨[1],[],[],[]⟩)]
def zm:LD ((List Bb)×Int×Ga) (Int) ((Unit) ⊕ (Unit))where
 sk:=⟨[(1,.loc 0 0),(74,.v (.lit Nd)),(75,.i),(76,.i)],[zb],[],0,0⟩
 p:=fun u=>(u.1.1,u.1.2.1,u.2.1.1.1,(q7 u.2.1.1.2))
 t:=fun u=>u.1.2.2.1
 n:=fun p t=>((p.1,p.2.1,t,()),((r7 p.2.2 (p.t9,())),()),())
 st:=fun Y p t ki ke=>cond (decide (t<p.2.1))
  (ask (V.ja t (da p.1)) ((gu (gx p.1 (fa t) fb).2.1).bind fun r1=>
  cond (!r1)
  (ke (.inl ()))
  (cond (decide ((gx p.1 (fa t) fb).2.2.2<(gx p.1 (fa t) fb).2.2.1))
  (ke (.inl ()))
  ((Pp (gx p.1 (fa t) fb).2.1).bind fun r2=>
  cond (decide ((gx p.1 (fa t) fb).2.2.1<r2))
  (ke (.inl ()))
  ((Pq (gx p.1 (fa t) fb).2.1).bind fun r3=>
  cond (decide (r3<(gx p.1 (fa t) fb).2.2.2))
  (ke (.inl ()))
  (ki ((Ea (t+(1:Int))))))))))
  (ke (.inr (())))
 o:=fun Z p e K=>Sum.elim (fun e=>so K (.ret) ⟨[(2,.v .bool)],[],[],0,0⟩ ((false,()),(),())) (fun e=>so K (.exit 2) ⟨[(1,.loc 0 0)],[zb],[],0,0⟩ ((),((r7 p.2.2 (p.t9,())),()),())) e
 Kd:=⟨[1,74,75,76],[],[],[]⟩
 pe:=[(.ret,⟨[2],[],[],[]⟩),(.exit 2,⟨[1],[],[],[]⟩)]
def ym:LD ((List Xb)×Int×Ga) (Int) ((Unit) ⊕ (Unit))where
 sk:=⟨[(1,.loc 0 0),(109,.v (.lit Qf)),(110,.i),(111,.i)],[zb],[],0,0⟩
 p:=fun u=>(u.1.1,u.1.2.1,u.2.1.1.1,(q7 u.2.1.1.2))
 t:=fun u=>u.1.2.2.1
 n:=fun p t=>((p.1,p.2.1,t,()),((r7 p.2.2 (p.t9,())),()),())
 st:=fun Y p t ki ke=>cond (decide (t<p.2.1))
  (ask (V.ja t (da p.1)) ((gu (gx p.1 (fa t) uc).2.1).bind fun r1=>
  cond (!r1)
  (ke (.inl ()))
  ((Pp (gx p.1 (fa t) uc).2.1).bind fun r2=>
  cond (decide ((gx p.1 (fa t) uc).2.2<r2))
  (ke (.inl ()))
  ((Pq (gx p.1 (fa t) uc).2.1).bind fun r3=>
  cond (decide (r3<(gx p.1 (fa t) uc).2.2))
  (ke (.inl ()))
  (ki ((Ea (t+(1:Int)))))))))
  (ke (.inr (())))
 o:=fun Z p e K=>Sum.elim (fun e=>so K (.ret) ⟨[(2,.v .bool)],[],[],0,0⟩ ((false,()),(),())) (fun e=>so K (.exit 4) ⟨[(1,.loc 0 0)],[zb],[],0,0⟩ ((),((r7 p.2.2 (p.t9,())),()),())) e
 Kd:=⟨[1,109,110,111],[],[],[]⟩
 pe:=[(.ret,⟨[2],[],[],[]⟩),(.exit 4,⟨[1],[],[],[]⟩)]
def xm:LD ((List Bb)×Int) (Int) ((Unit) ⊕ (Unit))where
 sk:=⟨[(137,.v (.lit Nd)),(138,.i),(139,.i)],[],[],0,0⟩
 p:=fun u=>(u.1.1,u.1.2.1)
 t:=fun u=>u.1.2.2.1
 n:=fun p t=>((p.1,p.2,t,()),(),())
 st:=fun Y p t ki ke=>cond (decide (t<p.2))
  (ask (V.ja t (da p.1)) ((gu (gx p.1 (fa t) fb).2.1).bind fun r1=>
  cond (!r1)
  (ke (.inl ()))
  ((Pp (gx p.1 (fa t) fb).2.1).bind fun r2=>
  cond (decide ((gx p.1 (fa t) fb).2.2.2<r2))
  (ke (.inl ()))
  ((Pq (gx p.1 (fa t) fb).2.1).bind fun r3=>
  cond (decide (r3<(gx p.1 (fa t) fb).2.2.2))
  (ke (.inl ()))
  (cond (decide ((gx p.1 (fa t) fb).2.2.1<(1:Int)))
  (ke (.inl ()))
  (cond (decide ((256:Int)<(gx p.1 (fa t) fb).2.2.1))
  (ke (.inl ()))
  (ki ((Ea (t+(1:Int)))))))))))
  (ke (.inr (())))
 o:=fun Z p e K=>Sum.elim (fun e=>so K (.ret) ⟨[(2,.v .bool)],[],[],0,0⟩ ((false,()),(),())) (fun e=>so K (.exit 6) ⟨[],[],[],0,0⟩ ((),(),())) e
 Kd:=⟨[137,138,139],[],[],[]⟩
 pe:=[(.ret,⟨[2],[],[],[]⟩),(.exit 6,⟨[],[],[],[]⟩)]
def FQ{X:Type}(a:Ga)(K:Bool->Option X):Option X:=
 cond (decide ((32:Int)<(nt (da a.2.2.2.2.1))))
 (K false)
 (cond (decide ((64:Int)<(nt (da a.2.2.2.2.2.1))))
 (K false)
 (cond (decide ((16:Int)<(nt (da a.2.2.2.2.2.2.1))))
 (K false)
 (cond (decide (a.2.2.2.1<(0:Int)))
 (K false)
 (cond (decide ((2147483647:Int)<a.2.2.2.1))
 (K false)
 (cond (decide ((nt (da a.2.2.2.2.2.2.2))<(1:Int)))
 (K false)
 (ask (V.ja 0 (da a.2.2.2.2.2.2.2)) (cond (!((decide ((gx a.2.2.2.2.2.2.2 0 vb).1=(0:Int)))&&((decide ((gx a.2.2.2.2.2.2.2 0 vb).2=(0:Int)))&&true)))
 (K false)
 ((Ia (Wq.m (a.2.2.2.2.2.2.2,(nt (da a.2.2.2.2.2.2.2)),a)) 0).bind fun e1=>
 Sum.elim (fun e2=>K false)
 (fun e3=>(Ia (zm.m (a.2.2.2.2.1,(nt (da a.2.2.2.2.1)),a)) 0).bind fun e4=>
 Sum.elim (fun e5=>K false)
 (fun e6=>(Ia (ym.m (a.2.2.2.2.2.1,(nt (da a.2.2.2.2.2.1)),a)) 0).bind fun e7=>
 Sum.elim (fun e8=>K false)
 (fun e9=>(Ia (xm.m (a.2.2.2.2.2.2.1,(nt (da a.2.2.2.2.2.2.1)))) 0).bind fun IC=>
 Sum.elim (fun YQ=>K false)
 (fun qV=>K true) IC) e7) e4) e1))))))))
def PF:=fun a=>FQ a some
def Lad:Spec:=E_.sp PF
noncomputable def PK:Env:=eE [] (mb [(58,Tac),(59,kN),(60,uZ)]) (qL 4 Wq.q (qL 10 zm.q (qL 16 ym.q (qL 22 xm.q qN))))
theorem VT:LS C PK true [1,4,6,8,10] 174 (.loop (pc [1,1,0,1,0,0] Tryz.f27)):=fun hc=>
 lO hc Wq (by intros;simp only[Wq,LD.m,nn])
theorem HN:LS C PK true [1,4,6,8,10] 174 (.loop (pc [1,1,1,0,1,0,0] Tryz.f27)):=fun hc=>
 lO hc zm (by intros;simp only[zm,LD.m,nn])
theorem GN:LS C PK true [1,4,6,8,10] 174 (.loop (pc [1,1,1,1,0,1,0,0] Tryz.f27)):=fun hc=>
 lO hc ym (by intros;simp only[ym,LD.m,nn])
theorem FN:LS C PK true [1,4,6,8,10] 174 (.loop (pc [1,1,1,1,1,0,1,0,0] Tryz.f27)):=fun hc=>
 lO hc xm (by intros;simp only[xm,LD.m,nn])
theorem Mad:OK (3) 27 (E_.sp PF):=
 fO (d:=2) (env:=PK) (Da (cc Uac (cc lN (cc vZ cn)))) (fn:=Tryz.f27) (mc:=@FQ) (by intros;simp only[PF,FQ,nn]) (Fa:=[1,4,6,8,10]) (hl:=fun hc=>(nc (by kernel_rfl) (Va (VT hc) (Va (HN hc) (Va (GN hc) (Va (FN hc) Mb))))))
def D_:FS (Ga) ((List Int)×Bool)where
 sk:=⟨(.cons (.agg zb) .nil),[],0⟩
 a:=fun u=>(q8 u.1.1)
 o:=fun Z a r K=>kv K (.Qc (cL [(.lit .i),.bool])) [] 0 (r.1,r.2,()) ()
def Hu:LD ((List Wa)×Int×Ga) (Int×Int) (Int)where
 sk:=⟨[(1,.loc 0 0),(4,.i),(13,.v (.lit Md)),(14,.i),(15,.i)],[zb],[],0,0⟩
 p:=fun u=>(u.1.2.1,u.1.2.2.1,u.2.1.1.1,(q7 u.2.1.1.2))
 t:=fun u=>(u.1.1,u.1.t3.1)
 n:=fun p t=>((t.1,p.1,p.2.1,t.2,()),((r7 p.2.2 (p.t9,())),()),())
 st:=fun Y p t ki ke=>cond (decide (t.2<p.2.1))
  (ask (V.ja t.2 (da p.1)) (cond (decide ((1:Int)<=(gx p.1 (fa t.2) Ta).1))
  (cond (decide ((gx p.1 (fa t.2) Ta).1<=(12:Int)))
  (ki ((Ea (t.1+(1:Int))),(Ea (t.2+(1:Int)))))
  (ki (t.1,(Ea (t.2+(1:Int))))))
  (ki (t.1,(Ea (t.2+(1:Int)))))))
  (ke (t.1))
 o:=fun Z p e K=>so K (.exit 0) ⟨[(1,.loc 0 0),(4,.i)],[zb],[],0,0⟩ ((e,()),((r7 p.2.2 (p.t9,())),()),())
 Kd:=⟨[1,4,13,14,15],[],[],[]⟩
 pe:=[(.exit 0,⟨[1,4],[],[],[]⟩)]
def gp:LD (Int×Int×Ga) (Int×(List Int)) ((List Int))where
 sk:=⟨[(1,.loc 0 0),(4,.i),(7,.v (.all 0)),(41,.i),(42,.i)],[zb],[.cells .i],0,0⟩
 p:=fun u=>(u.1.1,u.1.2.2.1,u.2.1.1.1,(q7 u.2.1.1.2))
 t:=fun u=>(u.1.t3.1,u.2.2.1)
 n:=fun p t=>((p.1,(),p.2.1,t.1,()),((r7 p.2.2 (p.t9,())),()),t.2,())
 st:=fun Y p t ki ke=>cond (decide (t.1<p.2.1))
  (ask (V.ja t.1 (da t.2)) (ki ((Ea (t.1+(1:Int))),(Oa t.2 (fa t.1) (-1)))))
  (ke (t.2))
 o:=fun Z p e K=>so K (.exit 2) ⟨[(1,.loc 0 0),(4,.i),(7,.v (.all 0))],[zb],[.cells .i],0,0⟩ ((p.1,(),()),((r7 p.2.2 (p.t9,())),()),e,())
 Kd:=⟨[1,4,7,41,42],[],[],[]⟩
 pe:=[(.exit 2,⟨[1,4,7],[],[],[]⟩)]
def ep:LD (Int×(List Wa)×Int×Ga) (Int×(List Int)) ((Unit) ⊕ ((List Int)))where
 sk:=⟨[(1,.loc 0 0),(4,.i),(7,.v (.all 0)),(50,.v (.lit Md)),(51,.i),(52,.i)],[zb],[.cells .i],0,0⟩
 p:=fun u=>(u.1.1,u.1.2.2.1,u.1.t3.1,u.2.1.1.1,(q7 u.2.1.1.2))
 t:=fun u=>(u.1.t4.1,u.2.2.1)
 n:=fun p t=>((p.1,(),p.2.1,p.2.2.1,t.1,()),((r7 p.t3 (p.t10,())),()),t.2,())
 st:=fun Y p t ki ke=>cond (decide (t.1<p.2.2.1))
  (ask (V.ja t.1 (da p.2.1)) (cond (decide ((gx p.2.1 (fa t.1) Ta).1<(1:Int)))
  (ki ((Ea (t.1+(1:Int))),t.2))
  (cond (decide ((12:Int)<(gx p.2.1 (fa t.1) Ta).1))
  (ki ((Ea (t.1+(1:Int))),t.2))
  (cond (decide ((Ea ((gx p.2.1 (fa t.1) Ta).2.1-(nt (da p.2.2.2.2.2.2.2.2.1))))<(0:Int)))
  (ke (.inl ()))
  (cond (decide (p.1<=(Ea ((gx p.2.1 (fa t.1) Ta).2.1-(nt (da p.2.2.2.2.2.2.2.2.1))))))
  (ke (.inl ()))
  (ask (V.ja (Ea ((gx p.2.1 (fa t.1) Ta).2.1-(nt (da p.2.2.2.2.2.2.2.2.1)))) (da t.2)) (cond (decide ((0:Int)<=(gx t.2 (fa (Ea ((gx p.2.1 (fa t.1) Ta).2.1-(nt (da p.2.2.2.2.2.2.2.2.1))))) (0:Int))))
  (ke (.inl ()))
  (ask (V.ja (Ea ((gx p.2.1 (fa t.1) Ta).2.1-(nt (da p.2.2.2.2.2.2.2.2.1)))) (da t.2)) (ki ((Ea (t.1+(1:Int))),(Oa t.2 (fa (Ea ((gx p.2.1 (fa t.1) Ta).2.1-(nt (da p.2.2.2.2.2.2.2.2.1))))) t.1)))))))))))
  (ke (.inr (t.2)))
 o:=fun Z p e K=>Sum.elim (fun e=>so K (.ret) ⟨[(2,.v .Ya),(3,.v .bool)],[],[],0,0⟩ (((),false,()),(),())) (fun e=>so K (.exit 4) ⟨[(7,.v (.all 0))],[],[.cells .i],0,0⟩ (((),()),(),e,())) e
 Kd:=⟨[1,4,7,50,51,52],[],[],[]⟩
 pe:=[(.ret,⟨[2,3],[],[],[]⟩),(.exit 4,⟨[7],[],[],[]⟩)]
def DQ{X:Type}(a:Ga)(K:(List Int)×Bool->Option X):Option X:=
 (Ia (Hu.m (a.1,(nt (da a.1)),a)) (0,0)).bind fun e1=>
 cond (!(decide (a.2.2.1=(Ea ((nt (da a.2.2.2.2.2.1))+e1)))))
 (K ([],false))
 (ask (decide (0<=e1)&&decide (e1<=e1)&&decide (8 * e1<=70368744177664)&&decide (e1<9223372036854775808)) ((Ia (gp.m (e1,(nt (da (Ba (fa e1) (0:Int)))),a)) (0,(Ba (fa e1) (0:Int)))).bind fun e2=>
 (Ia (ep.m (e1,a.1,(nt (da a.1)),a)) (0,e2)).bind fun e3=>
 Sum.elim (fun e4=>K ([],false))
 (fun e5=>K (e5,true)) e3))
def OF:=fun a=>DQ a some
def Iad:Spec:=D_.sp OF
noncomputable def CQ:Env:=eE [] (mb []) (qL 3 Hu.q (qL 12 gp.q (qL 17 ep.q qN)))
theorem PT:LS C CQ true [1,6,10] 91 (.loop (pc [1,1,0,1,0,0] Tryz.f28)):=fun hc=>
 lO hc Hu (by intros;simp only[Hu,LD.m,nn])
theorem DN:LS C CQ true [1,6,10] 91 (.loop (pc [1,1,1,1,1,0,1,0,0] Tryz.f28)):=fun hc=>
 lO hc gp (by intros;simp only[gp,LD.m,nn])
theorem CN:LS C CQ true [1,6,10] 91 (.loop (pc [1,1,1,1,1,1,0,1,0,0] Tryz.f28)):=fun hc=>
 lO hc ep (by intros;simp only[ep,LD.m,nn])
theorem Jad:OK (1) 28 (D_.sp OF):=
 fO (d:=0) (env:=CQ) (Da cn) (fn:=Tryz.f28) (mc:=@DQ) (by intros;simp only[OF,DQ,nn]) (Fa:=[1,6,10]) (sh:=(.Qc [(.lit (.int .i64)),.any])) (fz:=true) (hl:=fun hc=>(nc (by kernel_rfl) (Va (PT hc) (Va (DN hc) (Va (CN hc) Mb)))))
def C_:FS (Wa) (Bool)where
 sk:=⟨(.cons (.agg Kb) .nil),[],0⟩
 a:=fun u=>(q8 u.1.1)
 o:=fun Z a r K=>kv K (.bool) [] 0 r ()
def yy:PD (Wa) (Bool)where
 sk:=⟨[(1,.loc 0 0)],[Kb],[],0,0⟩
 p:=fun u=>(q8 u.2.1.1)
 st:=fun Y p ke=>cond (decide (p.1=(1:Int)))
  (ke (true))
  (cond (decide (p.1=(16:Int)))
  (ke (true))
  (ke ((decide ((17:Int)<=p.1)))))
 o:=fun Z p e K=>so K (.normal) ⟨[(1,.loc 0 0),(3,.v .bool)],[Kb],[],0,0⟩ ((e,()),((r7 p (p.t7,())),()),())
 Kd:=⟨[1],[],[],[]⟩
 pe:=[(.normal,⟨[1,3],[],[],[]⟩)]
def Vq:PD (Bool×Wa) (Bool)where
 sk:=⟨[(1,.loc 0 0),(3,.v .bool)],[Kb],[],0,0⟩
 p:=fun u=>(u.1.1,u.2.1.1.1,(q7 u.2.1.1.2))
 st:=fun Y p ke=>cond p.1
  (ke (true))
  (cond (decide (p.2.1=(2:Int)))
  (ke (true))
  (cond (decide (p.2.1=(3:Int)))
  (ke (true))
  (cond (decide (p.2.1=(12:Int)))
  (ke (true))
  (ke ((decide (p.2.1=(13:Int))))))))
 o:=fun Z p e K=>so K (.normal) ⟨[(1,.loc 0 0),(3,.v .bool),(4,.v .bool)],[Kb],[],0,0⟩ ((p.1,e,()),((r7 p.2 (p.t8,())),()),())
 Kd:=⟨[1,3],[],[],[]⟩
 pe:=[(.normal,⟨[1,3,4],[],[],[]⟩)]
def xy:PD (Bool×Bool×Wa) (Bool)where
 sk:=⟨[(1,.loc 0 0),(3,.v .bool),(4,.v .bool)],[Kb],[],0,0⟩
 p:=fun u=>(u.1.1,u.1.2.1,u.2.1.1.1,(q7 u.2.1.1.2))
 st:=fun Y p ke=>cond (decide (p.2.2.1=(15:Int)))
  (ke (true))
  (cond (decide (p.2.2.1=(16:Int)))
  (ke (true))
  (ke ((decide ((17:Int)<=p.2.2.1)))))
 o:=fun Z p e K=>so K (.normal) ⟨[(1,.loc 0 0),(3,.v .bool),(4,.v .bool),(5,.v .bool)],[Kb],[],0,0⟩ ((p.1,p.2.1,e,()),((r7 p.2.2 (p.t9,())),()),())
 Kd:=⟨[1,3,4],[],[],[]⟩
 pe:=[(.normal,⟨[1,3,4,5],[],[],[]⟩)]
def vy:PD (Bool×Bool×Bool×Wa) (Bool)where
 sk:=⟨[(1,.loc 0 0),(3,.v .bool),(4,.v .bool),(5,.v .bool)],[Kb],[],0,0⟩
 p:=fun u=>(r3 u.1 (q8 u.2.1.1))
 st:=fun Y p ke=>cond (!(decide (p.2.2.2.1=(1:Int))))
  (ke ((!(decide (p.2.2.2.1=(15:Int))))))
  (ke (false))
 o:=fun Z p e K=>so K (.normal) ⟨[(1,.loc 0 0),(3,.v .bool),(4,.v .bool),(5,.v .bool),(6,.v .bool)],[Kb],[],0,0⟩ ((r3 p (e,())),((r7 p.t3 (p.t10,())),()),())
 Kd:=⟨[1,3,4,5],[],[],[]⟩
 pe:=[(.normal,⟨[1,3,4,5,6],[],[],[]⟩)]
def Uq:PD (Bool×Bool×Bool×Bool×Wa) (Bool)where
 sk:=⟨[(1,.loc 0 0),(3,.v .bool),(4,.v .bool),(5,.v .bool),(6,.v .bool)],[Kb],[],0,0⟩
 p:=fun u=>(r4 u.1 (q8 u.2.1.1))
 st:=fun Y p ke=>cond (!p.1)
  (cond (!p.2.1)
  (cond (!p.2.2.1)
  (cond (!p.2.2.2.1)
  (ke (true))
  (ke ((decide (p.2.2.2.2.2.2.2.2.1=(0:Int))))))
  (cond (decide (p.2.2.2.2.2.1=(0:Int)))
  (cond (!p.2.2.2.1)
  (ke (true))
  (ke ((decide (p.2.2.2.2.2.2.2.2.1=(0:Int))))))
  (ke (false))))
  (cond (decide (p.2.2.2.2.2.2.2.1=(0:Int)))
  (cond (!p.2.2.1)
  (cond (!p.2.2.2.1)
  (ke (true))
  (ke ((decide (p.2.2.2.2.2.2.2.2.1=(0:Int))))))
  (cond (decide (p.2.2.2.2.2.1=(0:Int)))
  (cond (!p.2.2.2.1)
  (ke (true))
  (ke ((decide (p.2.2.2.2.2.2.2.2.1=(0:Int))))))
  (ke (false))))
  (ke (false))))
  (cond (decide (p.2.2.2.2.2.2.1=(0:Int)))
  (cond (!p.2.1)
  (cond (!p.2.2.1)
  (cond (!p.2.2.2.1)
  (ke (true))
  (ke ((decide (p.2.2.2.2.2.2.2.2.1=(0:Int))))))
  (cond (decide (p.2.2.2.2.2.1=(0:Int)))
  (cond (!p.2.2.2.1)
  (ke (true))
  (ke ((decide (p.2.2.2.2.2.2.2.2.1=(0:Int))))))
  (ke (false))))
  (cond (decide (p.2.2.2.2.2.2.2.1=(0:Int)))
  (cond (!p.2.2.1)
  (cond (!p.2.2.2.1)
  (ke (true))
  (ke ((decide (p.2.2.2.2.2.2.2.2.1=(0:Int))))))
  (cond (decide (p.2.2.2.2.2.1=(0:Int)))
  (cond (!p.2.2.2.1)
  (ke (true))
  (ke ((decide (p.2.2.2.2.2.2.2.2.1=(0:Int))))))
  (ke (false))))
  (ke (false))))
  (ke (false)))
 o:=fun Z p e K=>so K (.normal) ⟨[(2,.v .bool)],[],[],0,0⟩ ((e,()),(),())
 Kd:=⟨[1,3,4,5,6],[],[],[]⟩
 pe:=[(.normal,⟨[2],[],[],[]⟩)]
def BQ{X:Type}(a:Wa)(K:Bool->Option X):Option X:=
 (yy.m a).bind fun e1=>
 (Vq.m (e1,a)).bind fun e2=>
 (xy.m (e1,e2,a)).bind fun e3=>
 (vy.m (e1,e2,e3,a)).bind fun e4=>
 (Uq.m (e1,e2,e3,e4,a)).bind fun e5=>
 K e5
def lC:=fun a=>BQ a some
def Fad:Spec:=C_.sp lC
noncomputable def Ah:Env:=eE [2000001,2000002,2000003,2000004,2000005] (mb []) (qL 2000001 yy.q (qL 2000002 Vq.q (qL 2000003 xy.q (qL 2000004 vy.q (qL 2000005 Uq.q qN)))))
theorem JT:LS C Ah true [1] 96 (pc [1,0] Tryz.f29):=fun hc=>
 pO (Zd:=⟨uh Ah.join 2000001,Ah.call,Ah.loop⟩) hc rfl yy (by intros;simp only[yy,PD.m,nn])
theorem IT:LS C Ah true [1] 96 (pc [1,1,0] Tryz.f29):=fun hc=>
 pO (Zd:=⟨uh Ah.join 2000002,Ah.call,Ah.loop⟩) hc rfl Vq (by intros;simp only[Vq,PD.m,nn])
theorem HT:LS C Ah true [1] 96 (pc [1,1,1,0] Tryz.f29):=fun hc=>
 pO (Zd:=⟨uh Ah.join 2000003,Ah.call,Ah.loop⟩) hc rfl xy (by intros;simp only[xy,PD.m,nn])
theorem FT:LS C Ah true [1] 96 (pc [1,1,1,1,0] Tryz.f29):=fun hc=>
 pO (Zd:=⟨uh Ah.join 2000004,Ah.call,Ah.loop⟩) hc rfl vy (by intros;simp only[vy,PD.m,nn])
theorem ET:LS C Ah true [1] 96 (pc [1,1,1,1,1,0] Tryz.f29):=fun hc=>
 pO (Zd:=⟨uh Ah.join 2000005,Ah.call,Ah.loop⟩) hc rfl Uq (by intros;simp only[Uq,PD.m,nn])
theorem Gad:OK (1) 29 (C_.sp lC):=
 fO (d:=0) (env:=Ah) (Da cn) (fn:=Tryz.f29) (mc:=@BQ) (by intros;simp only[lC,BQ,nn]) (Fa:=[1]) (hl:=fun hc=>(nc (by kernel_rfl) (Va (JT hc) (Va (IT hc) (Va (HT hc) (Va (FT hc) (Va (ET hc) Mb)))))))
def Z':FS (Int×Int) (Bool)where
 sk:=⟨Eg,[],0⟩
 a:=fun u=>(u.1.1,u.1.2.1)
 o:=fun Z a r K=>kv K (.bool) [] 0 r ()
def dQ{X:Type}(a:Int×Int)(K:Bool->Option X):Option X:=
 cond (decide ((0:Int)<=a.1))
 (K (decide (a.1<a.2)))
 (K false)
def vz:=fun a=>dQ a some
def Qac:Spec:=Z'.sp vz
noncomputable def Sah:Env:=eE [] (mb []) qN
theorem Rac:OK (1) 61 (Z'.sp vz):=
 fO (d:=0) (env:=Sah) (Da cn) (fn:=Tryz.f61) (mc:=@dQ) (by intros;simp only[vz,dQ,nn])
def B_:FS (Wa×Int) (Bool)where
 sk:=⟨(cL [(.agg Kb),.i]),[],0⟩
 a:=fun u=>((q8 u.1.1),u.1.2.1)
 o:=fun Z a r K=>kv K (.bool) [] 0 r ()
def AQ{X:Type}(a:Wa×Int)(K:Bool->Option X):Option X:=
 cond (decide (a.1.1=(15:Int)))
 ((vz (a.1.2.2.2.2.2.2.1,a.2)).bind fun r1=>
 cond r1
 ((vz (a.1.2.2.2.2.2.2.2,a.2)).bind fun r2=>
 K r2)
 (K false))
 (cond (decide (a.1.1=(21:Int)))
 (cond (decide (a.1.2.2.2.2.2.2.1=(-1:Int)))
 (K (decide (a.1.2.2.2.2.2.2.2=(-1:Int))))
 (K false))
 ((vz (a.1.2.2.2.2.2.2.1,a.2)).bind fun r3=>
 cond r3
 (K (decide (a.1.2.2.2.2.2.2.2=(-1:Int))))
 (K false)))
def kC:=fun a=>AQ a some
def Cad:Spec:=B_.sp kC
noncomputable def jai:Env:=eE [] (mb [(61,Qac)]) qN
theorem Dad:OK (2) 30 (B_.sp kC):=
 fO (d:=1) (env:=jai) (Da (cc Rac cn)) (fn:=Tryz.f30) (mc:=@AQ) (by intros;simp only[kC,AQ,nn]) (Fa:=[2])
def A_:FS (Wa) ((List Int))where
 sk:=⟨(.cons (.agg Kb) .nil),[],0⟩
 a:=fun u=>(q8 u.1.1)
 o:=fun Z a r K=>kv K (.lit .i) [] 0 r ()
def zQ{X:Type}(a:Wa)(K:(List Int)->Option X):Option X:=
 cond (decide (a.1=(2:Int)))
 (K ([a.2.2.1]:List Int))
 (cond (decide (a.1=(3:Int)))
 (K ([a.2.2.1]:List Int))
 (cond (decide (a.1=(13:Int)))
 (K ([a.2.2.1]:List Int))
 (cond (decide (a.1=(4:Int)))
 (K ([a.2.2.1,a.2.2.2.1]:List Int))
 (cond (decide (a.1=(5:Int)))
 (K ([a.2.2.1,a.2.2.2.1]:List Int))
 (cond (decide (a.1=(6:Int)))
 (K ([a.2.2.1,a.2.2.2.1]:List Int))
 (cond (decide (a.1=(7:Int)))
 (K ([a.2.2.1,a.2.2.2.1]:List Int))
 (cond (decide (a.1=(8:Int)))
 (K ([a.2.2.1,a.2.2.2.1]:List Int))
 (cond (decide (a.1=(9:Int)))
 (K ([a.2.2.1,a.2.2.2.1]:List Int))
 (cond (decide (a.1=(10:Int)))
 (K ([a.2.2.1,a.2.2.2.1]:List Int))
 (cond (decide (a.1=(15:Int)))
 (K ([a.2.2.1,a.2.2.2.1]:List Int))
 (cond (decide (a.1=(11:Int)))
 (K ([a.2.2.2.1]:List Int))
 (cond (decide (a.1=(14:Int)))
 (K ([a.2.1,a.2.2.2.1]:List Int))
 (K [])))))))))))))
def LF:=fun a=>zQ a some
def zad:Spec:=A_.sp LF
noncomputable def iai:Env:=eE [] (mb []) qN
theorem Aad:OK (1) 31 (A_.sp LF):=
 fO (d:=0) (env:=iai) (Da cn) (fn:=Tryz.f31) (mc:=@zQ) (by intros;simp only[LF,zQ,nn]) (Fa:=[1]) (sh:=(.lit (.int .i64))) (fz:=true)
def Y':FS (Y0) (Int×Bool)where
 sk:=⟨(cL [(.agg zb),(.lit .i),(.agg Kb)]),[],0⟩
 a:=fun u=>((q8 u.1.1),u.1.2.1,u.1.2.2.1.1,(q7 u.1.2.2.1.2))
 o:=fun Z a r K=>kv K (.Qc (cL [.i,.bool])) [] 0 (r.1,r.2,()) ()
def cQ{X:Type}(a:Y0)(K:(Int×Bool)->Option X):Option X:=
 cond (decide (a.2.2.1=(2:Int)))
 (K (2,true))
 (cond (decide (a.2.2.1=(3:Int)))
 (K (2,true))
 (cond (decide (a.2.2.1=(4:Int)))
 (K (2,true))
 (cond (decide (a.2.2.1=(5:Int)))
 (K (2,true))
 (cond (decide (a.2.2.1=(6:Int)))
 (K (2,true))
 (cond (decide (a.2.2.1=(7:Int)))
 (K (12,true))
 (cond (decide (a.2.2.1=(8:Int)))
 (K (4,true))
 (cond (decide (a.2.2.1=(11:Int)))
 (K (16,true))
 (cond (decide (a.2.2.1=(14:Int)))
 (ask (V.ja a.2.2.2.2.1 (da a.1.2.2.2.2.2.2.1)) (cond (decide ((gx a.1.2.2.2.2.2.2.1 (fa a.2.2.2.2.1) fb).2.1=(3:Int)))
 (K (16,true))
 (K (18,true))))
 (cond (decide (a.2.2.1=(21:Int)))
 (K (32,true))
 (cond (decide (a.2.2.1=(13:Int)))
 (ask (V.ja a.2.2.2.1 (da a.1.2.2.2.2.2.1)) (cond (decide ((nt (da a.1.2.2.2.2.2.1))<=a.2.2.2.2.1))
 (ask (V.ja (Ea (a.2.2.2.2.1-(nt (da a.1.2.2.2.2.2.1)))) (da a.2.1)) (ask (V.ja (gx a.2.1 (fa (Ea (a.2.2.2.2.1-(nt (da a.1.2.2.2.2.2.1))))) (0:Int)) (da a.1.1)) (cond (decide ((gx a.1.1 (fa (gx a.2.1 (fa (Ea (a.2.2.2.2.1-(nt (da a.1.2.2.2.2.2.1))))) (0:Int))) Ta).1=(12:Int)))
 (ask (V.ja (gx a.1.1 (fa (gx a.2.1 (fa (Ea (a.2.2.2.2.1-(nt (da a.1.2.2.2.2.2.1))))) (0:Int))) Ta).2.2.1 (da a.1.2.2.2.2.1)) ((Pp (gx a.1.2.2.2.2.2.1 (fa a.2.2.2.1) uc).2.1).bind fun r1=>
 cond (decide (r1<=(gx a.1.2.2.2.2.1 (fa (gx a.1.1 (fa (gx a.2.1 (fa (Ea (a.2.2.2.2.1-(nt (da a.1.2.2.2.2.2.1))))) (0:Int))) Ta).2.2.1) fb).2.2.1))
 (ask (V.ja (gx a.1.1 (fa (gx a.2.1 (fa (Ea (a.2.2.2.2.1-(nt (da a.1.2.2.2.2.2.1))))) (0:Int))) Ta).2.2.1 (da a.1.2.2.2.2.1)) ((Pq (gx a.1.2.2.2.2.2.1 (fa a.2.2.2.1) uc).2.1).bind fun r2=>
 cond (decide ((gx a.1.2.2.2.2.1 (fa (gx a.1.1 (fa (gx a.2.1 (fa (Ea (a.2.2.2.2.1-(nt (da a.1.2.2.2.2.2.1))))) (0:Int))) Ta).2.2.1) fb).2.2.2<=r2))
 (K (2,false))
 (K (2,(!(decide ((gx a.1.2.2.2.2.2.1 (fa a.2.2.2.1) uc).2.1=(3:Int))))))))
 (K (2,(!(decide ((gx a.1.2.2.2.2.2.1 (fa a.2.2.2.1) uc).2.1=(3:Int))))))))
 (K (2,(!(decide ((gx a.1.2.2.2.2.2.1 (fa a.2.2.2.1) uc).2.1=(3:Int)))))))))
 (K (2,(!(decide ((gx a.1.2.2.2.2.2.1 (fa a.2.2.2.1) uc).2.1=(3:Int))))))))
 (K (0,false))))))))))))
def EF:=fun a=>cQ a some
def Oac:Spec:=Y'.sp EF
noncomputable def Rah:Env:=eE [] (mb [(59,kN),(60,uZ)]) qN
theorem Pac:OK (3) 62 (Y'.sp EF):=
 fO (d:=2) (env:=Rah) (Da (cc lN (cc vZ cn))) (fn:=Tryz.f62) (mc:=@cQ) (by intros;simp only[EF,cQ,nn]) (Fa:=[3,5,10])
def z_:FS (Y0) (Bool)where
 sk:=⟨(cL [(.agg zb),(.lit .i),(.agg Kb)]),[],0⟩
 a:=fun u=>((q8 u.1.1),u.1.2.1,u.1.2.2.1.1,(q7 u.1.2.2.1.2))
 o:=fun Z a r K=>kv K (.bool) [] 0 r ()
def yQ{X:Type}(a:Y0)(K:Bool->Option X):Option X:=
 (EF (a.1,a.2.1,a.2.2)).bind fun r1=>
 cond (decide (a.2.2.2.2.2.2.2.1=(0:Int)))
 (K (!r1.2))
 (cond (!(decide (r1.1=(0:Int))))
 (cond (decide ((0:Int)<a.2.2.2.2.2.2.2.1))
 (cond (decide (a.2.2.2.2.2.2.2.1<(nt (da a.1.2.2.2.2.2.2.2))))
 (ask (V.ja a.2.2.2.2.2.2.2.1 (da a.1.2.2.2.2.2.2.2)) (K (decide ((L3 .i64 (gx a.1.2.2.2.2.2.2.2 (fa a.2.2.2.2.2.2.2.1) vb).2 r1.1)=r1.1))))
 (K false))
 (K false))
 (K false))
def Dw:=fun a=>yQ a some
def xad:Spec:=z_.sp Dw
noncomputable def gai:Env:=eE [] (mb [(62,Oac)]) qN
theorem yad:OK (4) 32 (z_.sp Dw):=
 fO (d:=3) (env:=gai) (Da (cc Pac cn)) (fn:=Tryz.f32) (mc:=@yQ) (by intros;simp only[Dw,yQ,nn]) (Fa:=[3,5])
def y_:FS (Ga) (Bool)where
 sk:=⟨(.cons (.agg zb) .nil),[],0⟩
 a:=fun u=>(q8 u.1.1)
 o:=fun Z a r K=>kv K (.bool) [] 0 r ()
def cp:LD (Bool×Int×za×Ga×(List Bool)) (Bool×Int) (Bool)where
 sk:=⟨[(1,.loc 0 0),(3,.v (.all 0)),(4,.v .bool),(5,.i),(6,.v .bool),(49,.v (.agg Eg)),(50,.i)],[zb],[.cells .bool],0,0⟩
 p:=fun u=>(u.1.2.1,u.1.2.2.1,(u.1.t4.1.1,u.1.t4.1.2.1),(q8 u.2.1.1),u.2.2.1)
 t:=fun u=>(u.1.t3.1,u.1.t5.1)
 n:=fun p t=>(((),p.1,p.2.1,t.1,(p.2.2.1.1,p.2.2.1.2,()),t.2,()),((r7 p.t3.1 (p.t3.1.t7,())),()),p.t4,())
 st:=fun Y p t ki ke=>cond (decide (t.2<(2:Int)))
  (cond (decide (t.2=(0:Int)))
  (cond t.1
  (cond (decide (p.2.2.1.1<(0:Int)))
  (ki (true,(Ea (t.2+(1:Int)))))
  (ask (V.ja p.2.2.1.1 (da p.2.2.2.2)) (ki ((gx p.2.2.2.2 (fa p.2.2.1.1) false),(Ea (t.2+(1:Int)))))))
  (ki (false,(Ea (t.2+(1:Int))))))
  (cond (decide (t.2=(1:Int)))
  (cond t.1
  (cond (decide (p.2.2.1.2<(0:Int)))
  (ki (true,(Ea (t.2+(1:Int)))))
  (ask (V.ja p.2.2.1.2 (da p.2.2.2.2)) (ki ((gx p.2.2.2.2 (fa p.2.2.1.2) false),(Ea (t.2+(1:Int)))))))
  (ki (false,(Ea (t.2+(1:Int))))))
  (none)))
  (ke (t.1))
 o:=fun Z p e K=>so K (.exit 4) ⟨[(1,.loc 0 0),(3,.v (.all 0)),(4,.v .bool),(5,.i),(6,.v .bool)],[zb],[.cells .bool],0,0⟩ (((),p.1,p.2.1,e,()),((r7 p.t3.1 (p.t3.1.t7,())),()),p.t4,())
 Kd:=⟨[1,3,4,5,6,49,50],[],[],[]⟩
 pe:=[(.exit 4,⟨[1,3,4,5,6],[],[],[]⟩)]
def Tq:LD (Ga) (Bool×Int×(List Bool)) (Bool×(List Bool))where
 sk:=⟨[(1,.loc 0 0),(3,.v (.all 0)),(4,.v .bool),(5,.i)],[zb],[.cells .bool],0,0⟩
 p:=fun u=>(q8 u.2.1.1)
 t:=fun u=>(u.1.2.1,u.1.2.2.1,u.2.2.1)
 n:=fun p t=>(((),t.1,t.2.1,()),((r7 p (p.t7,())),()),t.2.2,())
 st:=fun Y p t ki ke=>cond (decide ((0:Int)<=t.2.1))
  (ask (V.ja t.2.1 (da t.2.2)) (cond (gx t.2.2 (fa t.2.1) false)
  (ki (t.1,(Ea (t.2.1-(1:Int))),t.2.2))
  (ask (V.ja t.2.1 (da p.1)) (cond (!(decide ((gx p.1 (fa t.2.1) Ta).1=(17:Int))))
  (ask (V.ja t.2.1 (da p.1)) (cond (!(decide ((gx p.1 (fa t.2.1) Ta).1=(20:Int))))
  (ask (V.ja t.2.1 (da p.1)) ((Ia (cp.m (t.1,t.2.1,(gx p.1 (fa t.2.1) Ta).2.2.2.2.2.2,p,t.2.2)) (true,0)).bind fun e1=>
  cond e1
  (ask (V.ja t.2.1 (da t.2.2)) (ki (true,(Ea (t.2.1-(1:Int))),(Oa t.2.2 (fa t.2.1) true))))
  (ki (t.1,(Ea (t.2.1-(1:Int))),t.2.2))))
  (ask (V.ja t.2.1 (da t.2.2)) (ki (true,(Ea (t.2.1-(1:Int))),(Oa t.2.2 (fa t.2.1) true))))))
  (ask (V.ja t.2.1 (da t.2.2)) (ki (true,(Ea (t.2.1-(1:Int))),(Oa t.2.2 (fa t.2.1) true))))))))
  (ke ((t.1,t.2.2)))
 o:=fun Z p e K=>so K (.exit 2) ⟨[(1,.loc 0 0),(3,.v (.all 0)),(4,.v .bool)],[zb],[.cells .bool],0,0⟩ (((),e.1,()),((r7 p (p.t7,())),()),e.2,())
 Kd:=⟨[1,3,4,5],[],[],[]⟩
 pe:=[(.exit 2,⟨[1,3,4],[],[],[]⟩)]
def qy:LD (Ga) (Bool×(List Bool)) ((List Bool))where
 sk:=⟨[(1,.loc 0 0),(3,.v (.all 0)),(4,.v .bool)],[zb],[.cells .bool],0,0⟩
 p:=fun u=>(q8 u.2.1.1)
 t:=fun u=>(u.1.2.1,u.2.2.1)
 n:=fun p t=>(((),t.1,()),((r7 p (p.t7,())),()),t.2,())
 st:=fun Y p t ki ke=>cond t.1
  ((Ia (Tq.m p) (false,(Ea ((nt (da p.1))-(1:Int))),t.2)).bind fun e1=>
  ki (e1.1,e1.2))
  (ke (t.2))
 o:=fun Z p e K=>so K (.exit 0) ⟨[(3,.v (.all 0))],[],[.cells .bool],0,0⟩ (((),()),(),e,())
 Kd:=⟨[1,3,4],[],[],[]⟩
 pe:=[(.exit 0,⟨[3],[],[],[]⟩)]
def bp:LD (Int×(List Bool)) (Int) ((Unit) ⊕ (Unit))where
 sk:=⟨[(69,.v (.all 0)),(70,.i),(71,.i)],[],[.cells .bool],0,0⟩
 p:=fun u=>(u.1.2.1,u.2.2.1)
 t:=fun u=>u.1.2.2.1
 n:=fun p t=>(((),p.1,t,()),(),p.2,())
 st:=fun Y p t ki ke=>cond (decide (t<p.1))
  (ask (V.ja t (da p.2)) (cond (!(gx p.2 (fa t) false))
  (ke (.inl ()))
  (ki ((Ea (t+(1:Int)))))))
  (ke (.inr (())))
 o:=fun Z p e K=>Sum.elim (fun e=>so K (.ret) ⟨[(2,.v .bool)],[],[],0,0⟩ ((false,()),(),())) (fun e=>so K (.exit 6) ⟨[],[],[],0,0⟩ ((),(),())) e
 Kd:=⟨[69,70,71],[],[],[]⟩
 pe:=[(.ret,⟨[2],[],[],[]⟩),(.exit 6,⟨[],[],[],[]⟩)]
def xQ{X:Type}(a:Ga)(K:Bool->Option X):Option X:=
 ask (decide (0<=(nt (da a.1)))&&decide ((nt (da a.1))<=(nt (da a.1)))&&decide (1 * (nt (da a.1))<=70368744177664)&&decide ((nt (da a.1))<9223372036854775808)) ((Ia (qy.m a) (true,(Ba (fa (nt (da a.1))) (false:Bool)))).bind fun e1=>
 (Ia (bp.m ((nt (da e1)),e1)) 0).bind fun e2=>
 Sum.elim (fun e3=>K false)
 (fun e4=>K true) e2)
def KF:=fun a=>xQ a some
def uad:Spec:=y_.sp KF
noncomputable def NK:Env:=eE [] (mb []) (qL 12 cp.q (qL 6 Tq.q (qL 3 qy.q (qL 20 bp.q qN))))
theorem BN:LS C NK true [1] 78 (.loop (pc [1,1,0,1,0,0,1,0,1,1,0,0,1,0,0,1,1,0,1,0,1,0,0] Tryz.f33)):=fun hc=>
 lO hc cp (by intros;simp only[cp,LD.m,nn])
theorem AT:LS C NK true [1] 78 (.loop (pc [1,1,0,1,0,0,1,0,1,1,0,0] Tryz.f33)):=fun hc=>
 lO hc Tq (by intros;simp only[Tq,LD.m,nn]) (hl:=(nc (by kernel_rfl) (Va (BN hc) Mb)))
theorem BT:LS C NK true [1] 78 (.loop (pc [1,1,0,1,0,0] Tryz.f33)):=fun hc=>
 lO hc qy (by intros;simp only[qy,LD.m,nn]) (hl:=(nc (by kernel_rfl) (Va (AT hc) Mb)))
theorem AN:LS C NK true [1] 78 (.loop (pc [1,1,1,0,1,0,0] Tryz.f33)):=fun hc=>
 lO hc bp (by intros;simp only[bp,LD.m,nn])
theorem vad:OK (1) 33 (y_.sp KF):=
 fO (d:=0) (env:=NK) (Da cn) (fn:=Tryz.f33) (mc:=@xQ) (by intros;simp only[KF,xQ,nn]) (Fa:=[1]) (hl:=fun hc=>(nc (by kernel_rfl) (Va (BT hc) (Va (AN hc) Mb))))
def Bah:FS (Ga) (Bool)where
 sk:=⟨(.cons (.agg zb) .nil),[],0⟩
 a:=fun u=>(q8 u.1.1)
 o:=fun Z a r K=>kv K (.bool) [] 0 r ()
def AF:PD (Ga) (Bool)where
 sk:=⟨[(1,.loc 0 0)],[zb],[],0,0⟩
 p:=fun u=>(q8 u.2.1.1)
 st:=fun Y p ke=>cond (decide ((nt (da p.1))<(1:Int)))
  (ke (true))
  (cond (decide ((4096:Int)<(nt (da p.1))))
  (ke (true))
  (cond (decide (p.2.1<(0:Int)))
  (ke (true))
  (cond (decide ((nt (da p.1))<=p.2.1))
  (ke (true))
  (ask (V.ja p.2.1 (da p.1)) (cond (!(decide ((gx p.1 (fa p.2.1) Ta).1=(17:Int))))
  (ke (true))
  ((PF p).bind fun r1=>
  ke ((!r1))))))))
 o:=fun Z p e K=>so K (.normal) ⟨[(1,.loc 0 0),(47,.v .bool)],[zb],[],0,0⟩ ((e,()),((r7 p (p.t7,())),()),())
 Kd:=⟨[1],[],[],[]⟩
 pe:=[(.normal,⟨[1,47],[],[],[]⟩)]
def zF:PD ((List Int)×Int×(List Wa)×Int×Int×Ga×Wa) (Bool)where
 sk:=⟨[(1,.loc 0 0),(3,.v (.lit .i)),(5,.i),(6,.loc 1 0),(56,.v (.lit Md)),(57,.i),(58,.i)],[zb,Kb],[],0,0⟩
 p:=fun u=>(r5 u.1 ((q8 u.2.1.1),u.2.1.2.1.1,(q7 u.2.1.2.1.2)))
 st:=fun Y p ke=>cond (decide (p.2.2.2.2.2.2.1<(1:Int)))
  (ke (true))
  (cond (decide ((22:Int)<=p.2.2.2.2.2.2.1))
  (ke (true))
  (cond (decide (p.2.2.2.2.2.2.1=(17:Int)))
  (cond (!(decide (p.2.1=p.2.2.2.2.2.1.2.1)))
  (ke (true))
  ((lC p.2.2.2.2.2.2).bind fun r1=>
  cond (!r1)
  (ke (true))
  ((kC (p.2.2.2.2.2.2,(nt (da p.2.2.2.2.2.1.1)))).bind fun r2=>
  ke ((!r2)))))
  ((lC p.2.2.2.2.2.2).bind fun r3=>
  cond (!r3)
  (ke (true))
  ((kC (p.2.2.2.2.2.2,(nt (da p.2.2.2.2.2.1.1)))).bind fun r4=>
  ke ((!r4))))))
 o:=fun Z p e K=>so K (.normal) ⟨[(1,.loc 0 0),(3,.v (.lit .i)),(5,.i),(6,.loc 1 0),(56,.v (.lit Md)),(57,.i),(58,.i),(94,.v .bool)],[zb,Kb],[],0,0⟩ ((r5 p (e,())),((r7 p.t5.1 (p.t5.1.t7,())),(r7 p.t6 (p.t13,())),()),())
 Kd:=⟨[1,3,5,6,56,57,58],[],[],[]⟩
 pe:=[(.normal,⟨[1,3,5,6,56,57,58,94],[],[],[]⟩)]
def ny:PD ((List Int)×Int×Int×(List Wa)×Int×Int×(List Int)×Int×Int×(Ga×Wa)) (Bool)where
 sk:=⟨[(1,.loc 0 0),(3,.v (.lit .i)),(5,.i),(6,.loc 1 0),(8,.i),(56,.v (.lit Md)),(57,.i),(58,.i),(96,.v (.lit .i)),(97,.i),(98,.i)],[zb,Kb],[],0,0⟩
 p:=fun u=>(r9 u.1 ((q8 u.2.1.1),(q8 u.2.1.2.1)))
 st:=fun Y p ke=>cond (decide (p.2.2.1<(0:Int)))
  (ke (true))
  (cond (decide (p.2.2.2.2.2.2.2.2.2.1.2.2.1<=p.2.2.1))
  (ke (true))
  (cond (decide ((nt (da p.2.2.2.2.2.2.2.2.2.1.2.2.2.2.2.1))<=p.2.2.1))
  (ask (V.ja (Ea (p.2.2.1-(nt (da p.2.2.2.2.2.2.2.2.2.1.2.2.2.2.2.1)))) (da p.1)) (ke ((decide (p.2.1<=(gx p.1 (fa (Ea (p.2.2.1-(nt (da p.2.2.2.2.2.2.2.2.2.1.2.2.2.2.2.1))))) (0:Int)))))))
  (ke (false))))
 o:=fun Z p e K=>so K (.normal) ⟨[(1,.loc 0 0),(3,.v (.lit .i)),(5,.i),(6,.loc 1 0),(56,.v (.lit Md)),(57,.i),(58,.i),(96,.v (.lit .i)),(97,.i),(98,.i),(128,.v .bool)],[zb,Kb],[],0,0⟩ ((p.1,p.2.1,(r6 p.t3 (e,()))),((r7 p.t9.1 (p.t9.1.t7,())),(r7 p.t10 (p.t17,())),()),())
 Kd:=⟨[1,3,5,6,8,56,57,58,96,97,98],[],[],[]⟩
 pe:=[(.normal,⟨[1,3,5,6,56,57,58,96,97,98,128],[],[],[]⟩)]
def Mq:LD ((List Int)×Int×(List Wa)×Int×Int×(List Int)×Int×Ga×Wa) (Int) ((Unit) ⊕ (Unit))where
 sk:=⟨[(1,.loc 0 0),(3,.v (.lit .i)),(5,.i),(6,.loc 1 0),(56,.v (.lit Md)),(57,.i),(58,.i),(96,.v (.lit .i)),(97,.i),(98,.i)],[zb,Kb],[],0,0⟩
 p:=fun u=>(r7 u.1 ((q8 u.2.1.1),u.2.1.2.1.1,(q7 u.2.1.2.1.2)))
 t:=fun u=>u.1.t7.1
 n:=fun p t=>((r7 p (t,())),((r7 p.t7.1 (p.t7.1.t7,())),(r7 p.t8 (p.t15,())),()),())
 st:=fun Y p t ki ke=>cond (decide (t<p.2.2.2.2.2.2.1))
  (ask (V.ja t (da p.2.2.2.2.2.1)) ((ny.m (p.1,p.2.1,(gx p.2.2.2.2.2.1 (fa t) (0:Int)),p.2.2.1,p.2.2.2.1,p.2.2.2.2.1,p.2.2.2.2.2.1,p.2.2.2.2.2.2.1,t,p.2.2.2.2.2.2.2)).bind fun e1=>
  cond e1
  (ke (.inl ()))
  (ki ((Ea (t+(1:Int)))))))
  (ke (.inr (())))
 o:=fun Z p e K=>Sum.elim (fun e=>so K (.ret) ⟨[(2,.v .bool)],[],[],0,0⟩ ((false,()),(),())) (fun e=>so K (.exit 2) ⟨[(1,.loc 0 0),(3,.v (.lit .i)),(6,.loc 1 0),(56,.v (.lit Md)),(57,.i),(58,.i)],[zb,Kb],[],0,0⟩ ((p.1,(r3 p.2.2 ())),((r7 p.t7.1 (p.t7.1.t7,())),(r7 p.t8 (p.t15,())),()),())) e
 Kd:=⟨[1,3,5,6,56,57,58,96,97,98],[],[],[]⟩
 pe:=[(.ret,⟨[2],[],[],[]⟩),(.exit 2,⟨[1,3,6,56,57,58],[],[],[]⟩)]
def my:PD (Y1) (Bool)where
 sk:=⟨[(1,.loc 0 0),(3,.v (.lit .i)),(6,.loc 1 0),(56,.v (.lit Md)),(57,.i),(58,.i)],[zb,Kb],[],0,0⟩
 p:=fun u=>(r4 u.1 ((q8 u.2.1.1),u.2.1.2.1.1,(q7 u.2.1.2.1.2)))
 st:=fun Y p ke=>cond (decide (p.2.2.2.2.2.1=(11:Int)))
  (ke (true))
  (ke ((decide (p.2.2.2.2.2.1=(14:Int)))))
 o:=fun Z p e K=>so K (.normal) ⟨[(1,.loc 0 0),(3,.v (.lit .i)),(6,.loc 1 0),(9,.v .bool),(56,.v (.lit Md)),(57,.i),(58,.i)],[zb,Kb],[],0,0⟩ ((p.1,e,(r3 p.2 ())),((r7 p.t4.1 (p.t4.1.t7,())),(r7 p.t5 (p.t12,())),()),())
 Kd:=⟨[1,3,6,56,57,58],[],[],[]⟩
 pe:=[(.normal,⟨[1,3,6,9,56,57,58],[],[],[]⟩)]
def jy:PD ((List Int)×Bool×(List Wa)×Int×Int×Ga×Wa) (Bool)where
 sk:=⟨[(1,.loc 0 0),(3,.v (.lit .i)),(6,.loc 1 0),(9,.v .bool),(56,.v (.lit Md)),(57,.i),(58,.i)],[zb,Kb],[],0,0⟩
 p:=fun u=>(r5 u.1 ((q8 u.2.1.1),u.2.1.2.1.1,(q7 u.2.1.2.1.2)))
 st:=fun Y p ke=>cond p.2.1
  (cond (decide (p.2.2.2.2.2.2.2.2.1<(0:Int)))
  (ke (true))
  (cond (decide ((nt (da p.2.2.2.2.2.1.2.2.2.2.2.2.1))<=p.2.2.2.2.2.2.2.2.1))
  (ke (true))
  (cond (decide (p.2.2.2.2.2.2.1=(12:Int)))
  (cond (decide (p.2.2.2.2.2.2.2.2.1<(0:Int)))
  (ke (true))
  (cond (decide ((nt (da p.2.2.2.2.2.1.2.2.2.2.1))<=p.2.2.2.2.2.2.2.2.1))
  (ke (true))
  (cond (decide (p.2.2.2.2.2.2.1=(13:Int)))
  (cond (decide (p.2.2.2.2.2.2.2.1<(0:Int)))
  (ke (true))
  (ke ((decide ((nt (da p.2.2.2.2.2.1.2.2.2.2.2.1))<=p.2.2.2.2.2.2.2.1)))))
  (ke (false)))))
  (cond (decide (p.2.2.2.2.2.2.1=(13:Int)))
  (cond (decide (p.2.2.2.2.2.2.2.1<(0:Int)))
  (ke (true))
  (ke ((decide ((nt (da p.2.2.2.2.2.1.2.2.2.2.2.1))<=p.2.2.2.2.2.2.2.1)))))
  (ke (false))))))
  (cond (decide (p.2.2.2.2.2.2.1=(12:Int)))
  (cond (decide (p.2.2.2.2.2.2.2.2.1<(0:Int)))
  (ke (true))
  (cond (decide ((nt (da p.2.2.2.2.2.1.2.2.2.2.1))<=p.2.2.2.2.2.2.2.2.1))
  (ke (true))
  (cond (decide (p.2.2.2.2.2.2.1=(13:Int)))
  (cond (decide (p.2.2.2.2.2.2.2.1<(0:Int)))
  (ke (true))
  (ke ((decide ((nt (da p.2.2.2.2.2.1.2.2.2.2.2.1))<=p.2.2.2.2.2.2.2.1)))))
  (ke (false)))))
  (cond (decide (p.2.2.2.2.2.2.1=(13:Int)))
  (cond (decide (p.2.2.2.2.2.2.2.1<(0:Int)))
  (ke (true))
  (ke ((decide ((nt (da p.2.2.2.2.2.1.2.2.2.2.2.1))<=p.2.2.2.2.2.2.2.1)))))
  (ke (false))))
 o:=fun Z p e K=>so K (.normal) ⟨[(1,.loc 0 0),(3,.v (.lit .i)),(6,.loc 1 0),(56,.v (.lit Md)),(57,.i),(58,.i),(187,.v .bool)],[zb,Kb],[],0,0⟩ ((p.1,(r3 p.2.2 (e,()))),((r7 p.t5.1 (p.t5.1.t7,())),(r7 p.t6 (p.t13,())),()),())
 Kd:=⟨[1,3,6,9,56,57,58],[],[],[]⟩
 pe:=[(.normal,⟨[1,3,6,56,57,58,187],[],[],[]⟩)]
def iy:PD (Y1) (Bool)where
 sk:=⟨[(1,.loc 0 0),(3,.v (.lit .i)),(6,.loc 1 0),(56,.v (.lit Md)),(57,.i),(58,.i)],[zb,Kb],[],0,0⟩
 p:=fun u=>(r4 u.1 ((q8 u.2.1.1),u.2.1.2.1.1,(q7 u.2.1.2.1.2)))
 st:=fun Y p ke=>cond (decide (p.2.2.2.2.2.1=(1:Int)))
  (cond (decide (p.2.2.2.2.2.2.2.2.2.1<(-2147483648:Int)))
  (ke (true))
  (cond (decide ((2147483647:Int)<p.2.2.2.2.2.2.2.2.2.1))
  (ke (true))
  (cond (decide (p.2.2.2.2.2.1=(15:Int)))
  (cond (decide (p.2.2.2.2.2.2.2.2.2.1<(14:Int)))
  (ke (true))
  (cond (decide ((19:Int)<p.2.2.2.2.2.2.2.2.2.1))
  (ke (true))
  ((Dw (p.2.2.2.2.1,p.1,p.2.2.2.2.2)).bind fun r1=>
  ke ((!r1)))))
  ((Dw (p.2.2.2.2.1,p.1,p.2.2.2.2.2)).bind fun r2=>
  ke ((!r2))))))
  (cond (decide (p.2.2.2.2.2.1=(15:Int)))
  (cond (decide (p.2.2.2.2.2.2.2.2.2.1<(14:Int)))
  (ke (true))
  (cond (decide ((19:Int)<p.2.2.2.2.2.2.2.2.2.1))
  (ke (true))
  ((Dw (p.2.2.2.2.1,p.1,p.2.2.2.2.2)).bind fun r3=>
  ke ((!r3)))))
  ((Dw (p.2.2.2.2.1,p.1,p.2.2.2.2.2)).bind fun r4=>
  ke ((!r4))))
 o:=fun Z p e K=>so K (.normal) ⟨[(1,.loc 0 0),(3,.v (.lit .i)),(56,.v (.lit Md)),(57,.i),(58,.i),(222,.v .bool)],[zb],[],0,0⟩ ((r4 p (e,())),((r7 p.t4.1 (p.t4.1.t7,())),()),())
 Kd:=⟨[1,3,6,56,57,58],[],[],[]⟩
 pe:=[(.normal,⟨[1,3,56,57,58,222],[],[],[]⟩)]
def rz:LD ((List Int)×(List Wa)×Int×Ga) (Int) ((Unit) ⊕ (Unit))where
 sk:=⟨[(1,.loc 0 0),(3,.v (.lit .i)),(56,.v (.lit Md)),(57,.i),(58,.i)],[zb],[],0,0⟩
 p:=fun u=>(r3 u.1 (q8 u.2.1.1))
 t:=fun u=>u.1.t3.1
 n:=fun p t=>((r3 p (t,())),((r7 p.t3 (p.t10,())),()),())
 st:=fun Y p t ki ke=>cond (decide (t<p.2.2.1))
  (ask (V.ja t (da p.2.1)) ((zF.m (p.1,t,p.2.1,p.2.2.1,t,p.2.2.2,(gx p.2.1 (fa t) Ta))).bind fun e1=>
  cond e1
  (ke (.inl ()))
  ((LF (gx p.2.1 (fa t) Ta)).bind fun r2=>
  (Ia (Mq.m (p.1,t,p.2.1,p.2.2.1,t,r2,(nt (da r2)),p.2.2.2,(gx p.2.1 (fa t) Ta))) 0).bind fun e3=>
  Sum.elim (fun e4=>ke (.inl ()))
  (fun e5=>(my.m (p.1,p.2.1,p.2.2.1,t,p.2.2.2,(gx p.2.1 (fa t) Ta))).bind fun e6=>
  (jy.m (p.1,e6,p.2.1,p.2.2.1,t,p.2.2.2,(gx p.2.1 (fa t) Ta))).bind fun e7=>
  cond e7
  (ke (.inl ()))
  ((iy.m (p.1,p.2.1,p.2.2.1,t,p.2.2.2,(gx p.2.1 (fa t) Ta))).bind fun e8=>
  cond e8
  (ke (.inl ()))
  (ki ((Ea (t+(1:Int))))))) e3)))
  (ke (.inr (())))
 o:=fun Z p e K=>Sum.elim (fun e=>so K (.ret) ⟨[(2,.v .bool)],[],[],0,0⟩ ((false,()),(),())) (fun e=>so K (.exit 0) ⟨[(1,.loc 0 0)],[zb],[],0,0⟩ ((),((r7 p.t3 (p.t10,())),()),())) e
 Kd:=⟨[1,3,56,57,58],[],[],[]⟩
 pe:=[(.ret,⟨[2],[],[],[]⟩),(.exit 0,⟨[1],[],[],[]⟩)]
def p7{X:Type}(a:Ga)(K:Bool->Option X):Option X:=
 (AF.m a).bind fun e1=>
 cond e1
 (K false)
 ((OF a).bind fun r2=>
 cond (!r2.2)
 (K false)
 ((Ia (rz.m (r2.1,a.1,(nt (da a.1)),a)) 0).bind fun e3=>
 Sum.elim (fun e4=>K false)
 (fun e5=>(KF a).bind fun r6=>
 K r6) e3))
def QS:=fun a=>p7 a some
def Aah:Spec:=Bah.sp QS
noncomputable def qj:Env:=eE [2000001,2000009,2000014,2000017,2000018,2000020] (mb [(27,Lad),(28,Iad),(29,Fad),(30,Cad),(31,zad),(32,xad),(33,uad)]) (qL 2000001 AF.q (qL 2000009 zF.q (qL 2000014 ny.q (qL 12 Mq.q (qL 2000017 my.q (qL 2000018 jy.q (qL 2000020 iy.q (qL 7 rz.q qN))))))))
theorem XX:LS C qj true [1,6] 226 (pc [1,0,0] Tryz.f8):=fun hc=>
 pO (Zd:=⟨uh qj.join 2000001,qj.call,qj.loop⟩) hc rfl AF (by intros;simp only[AF,PD.m,nn])
theorem WX:LS C qj true [1,6] 226 (pc [1,1,1,1,0,1,0,0,1,1,0,0,1,0,0] Tryz.f8):=fun hc=>
 pN (n':=fun p=>((r5 p ()),((r7 p.t5.1 (p.t5.1.t7,())),(r7 p.t6 (p.t13,())),()),())) (Zd:=⟨uh qj.join 2000009,qj.call,qj.loop⟩) hc rfl zF (by intros;simp only[zF,PD.m,nn])
theorem PS:LS C qj true [1,6] 226 (pc [1,1,1,1,0,1,0,0,1,1,0,0,1,1,0,1,0,0,1,1,0,0,1,0] Tryz.f8):=fun hc=>
 pN (n':=fun p=>((r9 p ()),((r7 p.t9.1 (p.t9.1.t7,())),(r7 p.t10 (p.t17,())),()),())) (Zd:=⟨uh qj.join 2000014,qj.call,qj.loop⟩) hc rfl ny (by intros;simp only[ny,PD.m,nn])
theorem SS:LS C qj true [1,6] 226 (.loop (pc [1,1,1,1,0,1,0,0,1,1,0,0,1,1,0,1,0,0] Tryz.f8)):=fun hc=>
 lO hc Mq (by intros;simp only[Mq,LD.m,nn]) (hl:=(nc (by kernel_rfl) (Va (PS hc) Mb)))
theorem OS:LS C qj true [1,6] 226 (pc [1,1,1,1,0,1,0,0,1,1,0,0,1,1,1,0] Tryz.f8):=fun hc=>
 pN (n':=fun p=>((r4 p ()),((r7 p.t4.1 (p.t4.1.t7,())),(r7 p.t5 (p.t12,())),()),())) (Zd:=⟨uh qj.join 2000017,qj.call,qj.loop⟩) hc rfl my (by intros;simp only[my,PD.m,nn])
theorem NS:LS C qj true [1,6] 226 (pc [1,1,1,1,0,1,0,0,1,1,0,0,1,1,1,1,0,0] Tryz.f8):=fun hc=>
 pN (n':=fun p=>((r5 p ()),((r7 p.t5.1 (p.t5.1.t7,())),(r7 p.t6 (p.t13,())),()),())) (Zd:=⟨uh qj.join 2000018,qj.call,qj.loop⟩) hc rfl jy (by intros;simp only[jy,PD.m,nn])
theorem MS:LS C qj true [1,6] 226 (pc [1,1,1,1,0,1,0,0,1,1,0,0,1,1,1,1,1,0] Tryz.f8):=fun hc=>
 pN (n':=fun p=>((r4 p ()),((r7 p.t4.1 (p.t4.1.t7,())),(r7 p.t5 (p.t12,())),()),())) (Zd:=⟨uh qj.join 2000020,qj.call,qj.loop⟩) hc rfl iy (by intros;simp only[iy,PD.m,nn])
theorem YX:LS C qj true [1,6] 226 (.loop (pc [1,1,1,1,0,1,0,0] Tryz.f8)):=fun hc=>
 lO hc rz (by intros;simp only[rz,LD.m,nn]) (hl:=(nc (by kernel_rfl) (Va (WX hc) (Va (SS hc) (Va (OS hc) (Va (NS hc) (Va (MS hc) Mb)))))))
theorem Cah:OK (5) 8 (Bah.sp QS):=
 fO (d:=4) (env:=qj) (Da (cc Mad (cc Jad (cc Gad (cc Dad (cc Aad (cc yad (cc vad cn)))))))) (fn:=Tryz.f8) (mc:=@p7) (by intros;simp only[QS,p7,nn]) (Fa:=[1,6]) (hl:=fun hc=>(nc (by kernel_rfl) (Va (XX hc) (Va (YX hc) Mb))))
end
end Go.U
end
