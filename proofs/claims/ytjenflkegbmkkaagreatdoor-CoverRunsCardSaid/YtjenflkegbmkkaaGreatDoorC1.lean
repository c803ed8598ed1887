/- The functions of the program as Lean functions, and that the evaluator says so. -/
import Derived.Test.YtjenflkegbmkkaaGreatDoorB3
import Derived.Test.YtjenflkegbmkkaaGreatDoorA6
import Derived.Test.YtjenflkegbmkkaaGreatDoorProg
import Derived.KernelRfl
import Derived.Test.YtjenflkegbmkkaaGreatDoorB5
import Derived.Lib.ItoaNum
set_option linter.unusedVariables false
set_option linter.unusedSimpArgs false
set_option linter.unusedSectionVars false
open ByteArray renaming empty→Rz
open Int renaming toNat→fa
open List renaming range→ua,mem_cons_self→Ad,mem_cons_of_mem→Wb,append_nil→Nn,getElem?_toArray→oc,getElem?_cons_zero→He,getElem?_cons_succ→We,length_nil→Bb,length→da,set→Qa,replicate→Ca
open Nat renaming le_trans→Ib,zero_add→Re
open Option renaming bind_eq_some_iff→aa,bind_some→ga
namespace Go.U
open Go Go.Proofs
def Ea(n:Int):Int:=IntKind.wrap .i64 n
def Tf(n:Int):Int:=IntKind.wrap .u64 n
def nt(n:Nat):Int:=n
def gx{α:Type}(l:List α)(i:Nat)(d:α):α:=l.getD i d
def str(l:List UInt8):ByteArray:=⟨l.toArray⟩
def C1(k:IntKind)(x y:Int):Int:=let a:=BitVec.ofInt k.bits x;let b:=BitVec.ofInt k.bits y;k.wrap (a &&& b).toNat
abbrev ya:CT:=(.pair (.int .i64) (.int .i64))
abbrev Aa:Type:=(Int×Int)
abbrev Fb:Aa:=((0:Int),(0:Int))
abbrev Sf:CT:=(.pair .str ya)
abbrev Zb:Type:=(ByteArray×Aa)
abbrev Bc:Zb:=(Rz,Fb)
abbrev Sd:CT:=(.pair .str (.pair (.int .i64) ya))
abbrev Cb:Type:=(ByteArray×(Int×Aa))
abbrev fb:Cb:=(Rz,((0:Int),Fb))
abbrev Had:CT:=(.pair (.int .i64) (.pair (.int .i64) ya))
abbrev EN:Type:=(Int×(Int×Aa))
abbrev Bad:EN:=((0:Int),((0:Int),Fb))
abbrev Nj:CT:=(.pair (.slice .bool) (.pair (.slice (.pair .bool .bool)) (.slice ya)))
abbrev vb:Type:=((List Bool)×((List (Bool×Bool))×(List Aa)))
abbrev wu:vb:=([],([],[]))
abbrev Qd:CT:=(.pair (.int .i64) (.pair (.int .i64) (.pair (.int .i64) (.pair (.int .i64) Had))))
abbrev Wa:Type:=(Int×(Int×(Int×(Int×EN))))
abbrev Ta:Wa:=((0:Int),((0:Int),((0:Int),((0:Int),Bad))))
abbrev Zq:Type:=(Int×(Int×(Int×(Int×(Int×((List Int)×((List (List Int))×(List (List Int)))))))))
abbrev yy:CT:=(.pair (.slice Qd) (.pair (.int .i64) (.pair (.int .i64) (.pair (.int .i64) (.pair (.slice Sd) (.pair (.slice Sf) (.pair (.slice Sd) (.slice ya))))))))
abbrev Ga:Type:=((List Wa)×(Int×(Int×(Int×((List Cb)×((List Zb)×((List Cb)×(List Aa))))))))
def Po(f:Func):Code:=match f.body with|some c=>c|none=> .skip
def kid:Code->Nat->Code
 | .seq a _,0=>a
 | .seq _ b,1=>b
 | .cond _ a _,0=>a
 | .cond _ _ b,1=>b
 | .block _ c,0=>c
 | .loop c,0=>c
 | .scope c,0=>c
 | .rangeFunc _ _ a _,0=>a
 | .rangeFunc _ _ _ b,1=>b
 |c,_=>c
def sE:List Nat->Code->Code
 |[],c=>c
 |i::l,c=>sE l (kid c i)
def Vf(j:Nat->Bool)(key k:Nat):Bool:=if k=key then false else j k
def Ol{α:Type}(d:α):List (FuncId×α)->FuncId->α
 |[],_=>d
 |(g,x)::l,f=>if f=g then x else Ol d l f
def rfG:Code->Operand
 | .rangeFunc g _ _ _=>g
 |_=> .tmp 0
def Kae:Code->Array Tmp
 | .rangeFunc _ ps _ _=>ps
 |_=> #[]
def rfA:Code->Code
 | .rangeFunc _ _ a _=>a
 |c=>c
def rfB:Code->Code
 | .rangeFunc _ _ _ b=>b
 |c=>c
def S3(n:Nat)(c:Code):RFn:=⟨n,(Kae c).toList,rfA c,rfB c⟩
noncomputable def rfT:Nat->RFn:=Ol ⟨0,[],.skip,.skip⟩ [(180000,S3 10 (sE [1,1,0,1,0] (Po Tryz.f18))),(230003,S3 63 (sE [1,1,0,1,0] (Po Tryz.f23))),(240002,S3 13 (sE [1,0,1,0] (Po Tryz.f24))),(440003,S3 17 (sE [1,1,0,1,0] (Po Tryz.f44)))]
noncomputable instance:GC:=⟨rfT,74,5⟩
def gB:List V.AV:=[.int .u64 1,.int .u64 10,.int .u64 100,.int .u64 1000,.int .u64 10000,.int .u64 100000,.int .u64 1000000,.int .u64 10000000,.int .u64 100000000,.int .u64 1000000000,.int .u64 10000000000,.int .u64 100000000000,.int .u64 1000000000000,.int .u64 10000000000000,.int .u64 100000000000000,.int .u64 1000000000000000,.int .u64 10000000000000000,.int .u64 100000000000000000,.int .u64 1000000000000000000,.int .u64 10000000000000000000]
noncomputable def Wai:FuncId->Option (List V.AV->V.AH->Option (V.AV×V.AH)):=Ol none [(41,some (V.YC 74 5)),(67,some (V.b7 74)),(103,some (V.F5)),(45,some (V.Aw)),(51,some (V.Bm 52 V.Mh)),(46,some (V.Tn V.Vp))]
noncomputable def Nae:List (FuncId×Option Func):=[(3,some Tryz.f3),(4,some Tryz.f4),(5,some Tryz.f5),(6,some Tryz.f6),(7,some Tryz.f7),(8,some Tryz.f8),(9,some Tryz.f9),(10,some Tryz.f10),(11,some Tryz.f11),(12,some Tryz.f12),(13,some Tryz.f13),(14,some Tryz.f14),(15,some Tryz.f15),(16,some Tryz.f16),(17,some Tryz.f17),(18,some Tryz.f18),(19,some Tryz.f19),(20,some Tryz.f20),(21,some Tryz.f21),(22,some Tryz.f22),(23,some Tryz.f23),(24,some Tryz.f24),(25,some Tryz.f25),(26,some Tryz.f26),(27,some Tryz.f27),(28,some Tryz.f28),(29,some Tryz.f29),(30,some Tryz.f30),(31,some Tryz.f31),(32,some Tryz.f32),(33,some Tryz.f33),(34,some Tryz.f34),(35,some Tryz.f35),(36,some Tryz.f36),(37,some Tryz.f37),(39,some Tryz.f39),(40,some Tryz.f40),(42,some Tryz.f42),(43,some Tryz.f43),(44,some Tryz.f44),(50,some Tryz.f50),(55,some Tryz.f55),(56,some Tryz.f56),(57,some Tryz.f57),(58,some Tryz.f58),(59,some Tryz.f59),(60,some Tryz.f60),(61,some Tryz.f61),(62,some Tryz.f62),(63,some Tryz.f63),(64,some Tryz.f64),(65,some Tryz.f65),(66,some Tryz.f66),(68,some Tryz.f68),(69,some Tryz.f69),(72,some Tryz.f72),(75,some Tryz.f75),(76,some Tryz.f76),(77,some Tryz.f77),(78,some Tryz.f78),(79,some Tryz.f79),(80,some Tryz.f80),(81,some Tryz.f81),(82,some Tryz.f82),(83,some Tryz.f83),(84,some Tryz.f84),(85,some Tryz.f85),(86,some Tryz.f86),(87,some Tryz.f87),(88,some Tryz.f88),(89,some Tryz.f89),(90,some Tryz.f90),(91,some Tryz.f91),(92,some Tryz.f92),(93,some Tryz.f93),(94,some Tryz.f94),(95,some Tryz.f95),(96,some Tryz.f96),(97,some Tryz.f97),(98,some Tryz.f98),(99,some Tryz.f99),(100,some Tryz.f100),(101,some Tryz.f101),(115,some Tryz.f115),(124,some Tryz.f124),(125,some Tryz.f125),(126,some Tryz.f126),(127,some Tryz.f127),(128,some Tryz.f128),(129,some Tryz.f129),(130,some Tryz.f130),(131,some Tryz.f131),(38,some Tryz.f38),(41,some Tryz.f41),(67,some Tryz.f67),(103,some Tryz.f103),(48,some Tryz.f48),(47,some Tryz.f47),(49,some Tryz.f49),(45,some Tryz.f45),(51,some Tryz.f51),(46,some Tryz.f46)]
noncomputable def par:V.yh where
 P:=Tryz.prog
 fns:=Ol none Nae
 loc:=Ol [] [(3,[3,7,8]),(4,[3]),(5,[4,10,11,12]),(6,[3,10]),(7,[11,2000021]),(8,[1,6]),(9,[1,2000004,2000005,2000006,2000040]),(11,[3,6,7]),(12,[3,6,7,10,11]),(13,[2,3]),(14,[1,2]),(15,[1,2]),(16,[2,3,10,15,16]),(17,[2,3]),(19,[1]),(21,[3,11,16,19]),(22,[3,10,18]),(25,[4,8,10,14]),(26,[14]),(27,[1,4,6,8,10]),(28,[1,6,10]),(29,[1]),(30,[2]),(31,[1]),(32,[3,5]),(33,[1]),(34,[0]),(35,[2,3,4,5]),(36,[3,6,7]),(37,[6,7,12]),(50,[2,3]),(55,[3,9,11]),(56,[0]),(62,[3,5,10]),(63,[3]),(64,[3,6,8]),(65,[13]),(66,[2]),(69,[6,10]),(72,[3]),(76,[5]),(78,[4]),(79,[3]),(80,[3]),(86,[3]),(89,[3]),(90,[3,5]),(91,[3]),(92,[3]),(93,[3,6]),(94,[3]),(95,[3]),(96,[3]),(98,[3]),(99,[3]),(100,[3]),(101,[2]),(115,[3]),(124,[3]),(126,[4]),(128,[3]),(131,[3])]
 keep:=Ol [] [(3,ua 83),(4,ua 25),(5,ua 128),(6,ua 106),(7,ua 123),(8,ua 226),(9,ua 52),(10,ua 9),(11,ua 27),(12,ua 34),(13,ua 81),(14,ua 12),(15,ua 12),(16,ua 127),(17,ua 145),(18,ua 10),(19,ua 39),(20,ua 26),(21,ua 122),(22,ua 143),(23,ua 63),(24,ua 13),(25,ua 95),(26,ua 56),(27,ua 174),(28,ua 91),(29,ua 96),(30,ua 44),(31,ua 38),(32,ua 49),(33,ua 78),(34,ua 26),(35,ua 112),(36,ua 17),(37,ua 33),(39,ua 5),(40,ua 17),(42,ua 5),(43,ua 4),(44,ua 17),(50,ua 48),(55,ua 75),(56,ua 20),(57,ua 16),(58,ua 9),(59,ua 7),(60,ua 7),(61,ua 12),(62,ua 95),(63,ua 75),(64,ua 79),(65,ua 41),(66,ua 40),(68,ua 5),(69,ua 66),(72,ua 9),(75,ua 6),(76,ua 42),(77,ua 20),(78,ua 21),(79,ua 4),(80,ua 13),(81,ua 7),(82,ua 9),(83,ua 8),(84,ua 8),(85,ua 8),(86,ua 57),(87,ua 8),(88,ua 8),(89,ua 23),(90,ua 68),(91,ua 37),(92,ua 42),(93,ua 54),(94,ua 49),(95,ua 13),(96,ua 6),(97,ua 17),(98,ua 7),(99,ua 78),(100,ua 57),(101,ua 352),(115,ua 19),(124,ua 45),(125,ua 9),(126,ua 21),(127,ua 28),(128,ua 53),(129,ua 19),(130,ua 17),(131,ua 99),(38,ua 19),(41,ua 14),(67,ua 20),(103,ua 54),(48,ua 8),(47,ua 8),(49,ua 8),(45,ua 33),(51,ua 14),(46,ua 11)]
 AU:=Ol false [(21,true),(22,true),(28,true),(31,true),(34,true),(36,true),(37,true),(57,true),(130,true)]
 ext:=Wai
 Pa:=Ol none [(0,some gB)]
def Pa(_:Nat):Option (List UV):=none
theorem Nr:Ge par Pa:=fun i row h=>by simp[Pa]at h
def pc(l:List Nat)(f:Func):Code:=sE l (Po f)
def qN:(X:Type)->Nat->St->(V.Ex->St->Option X)->Option X:=fun X k s K=>none
def qL(k0:Nat)(q:(X:Type)->St->(V.Ex->St->Option X)->Option X)(r:(X:Type)->Nat->St->(V.Ex->St->Option X)->Option X):(X:Type)->Nat->St->(V.Ex->St->Option X)->Option X:=fun X k s K=>if k=k0 then q X s K else r X k s K
def eE(j:List Nat)(c:(X:Type)->UV->List UV->UH->(UV->UH->Option X)->Option X)(l:(X:Type)->Nat->St->(V.Ex->St->Option X)->Option X):Env:=⟨fun k=>j.contains k,c,l⟩
abbrev LS(C:V.Callee)(e:Env)(rf:Bool)(Fa:List Nat)(n:Nat)(c:Code):Prop:=Jc C e.call->Mc e.loop (vc par C rf Fa n) c
def rfC(c:Code):Code:= .rangeFunc (rfG c) (Kae c) (rfA c) (rfB c)
def OK(d:Nat)(f:FuncId)(s:Spec):Prop:=∀k,d<=k->Xe (V.call par k) f s
def OKY(d:Nat)(s:Spec):Prop:=∀k,d<=k->Li (V.call par k) s
def To(d:Nat)(l:List (FuncId×Spec)):Prop:=∀k,d<=k->∀p∈l,Xe (V.call par k) p.1 p.2
def Jw(d:Nat)(l:List (FuncId×Spec)):Prop:=∀k,d<=k->∀p∈l,Li (V.call par k) p.2
theorem cn{d:Nat}:To d []:=fun _ _=>Q_
theorem cyn{d:Nat}:Jw d []:=fun _ _=>v_
theorem cc{d0 d:Nat}{f:FuncId}{s:Spec}{l:List (FuncId×Spec)}(h:OK d0 f s)(hl:To d l)(hd:d0<=d:=by omega):To d ((f,s)::l):=fun k hk=>UN (h k (Ib hd hk)) (hl k hk)
def FS.tk{A R:Type}(S:FS A R)(args:List UV)(H:UH):Bool:=(S.sk.take args H).isSome
def alt(b:List UV->UH->Bool)(s g:Spec):Spec:=fun X args H K=>cond (b args H) (s X args H K) (g X args H K)
theorem cA{d0 d:Nat}{f:FuncId}{b:List UV->UH->Bool}{s g:Spec}{l:List (FuncId×Spec)}(h:OK d0 f s)(hl:To d ((f,g)::l))(hd:d0<=d:=by omega):To d ((f,alt b s g)::l):=fun k hk=>
 UN (fun X args H K out ho=>by
  unfold alt at ho;cases hb:b args H<;>rw[hb]at ho
  ·exact hl k hk _ Ad X args H K out ho
  ·exact h k (Ib hd hk) X args H K out ho) fun p hp=>hl k hk p (Wb _ hp)
theorem ccy{d0 d:Nat}{f:FuncId}{s:Spec}{l:List (FuncId×Spec)}(h:OKY d0 s)(hl:Jw d l)(hd:d0<=d:=by omega):Jw d ((f,s)::l):=fun k hk=>F3 (h k (Ib hd hk)) (hl k hk)
theorem Da{d:Nat}{l:List (FuncId×Spec)}(h:To d l):∀k,d<=k->Jc (V.call par k) (yb l):=fun k hk=>DK (h k hk)
theorem Dj{d:Nat}{l ly:List (FuncId×Spec)}(h:To d l)(hy:Jw d ly):∀k,d<=k->Jc (V.call par k) (Rs l ly):=fun k hk=>xN (h k hk) (hy k hk)
theorem gal{d:Nat}{env:Env}(aj:∀k,d<=k->Jc (V.call par k) env.call){f:FuncId}{fn:Func}{Fa:List Nat}{sh:Sh}{fz:Bool}
  (hd:(par.fns f,(match fn.body with|some _=>true|none=>false),par.ext f,par.loc f,par.keep f,par.AU f)=(some fn,true,none,Fa,ua fn.ntmps,fz))
  (hl:∀{C:V.Callee},Jc C env.call->∀c'∈loops env.join (Po fn),Mc env.loop (vc par C true Fa fn.ntmps) c') {A' R:Type} {S:FS A' R} {m:A'->Option R} {mc:(X:Type)->A'->(R->Option X)->Option X}
  (ee:∀X u K,AJ par Pa env Fa fn sh fz (S.sk.args u) (S.sk.heap u) K=mc X (S.a u) (fun r=>S.o _ (S.a u) r K))
  (Bi:∀X a K,mc X a K=(m a).bind K):OK (d+1) f (S.sp m):=by
 intro k hk;obtain⟨k,rfl⟩:∃j,k=j+1:=⟨k-1,by omega⟩;have hc:=aj k (by omega);simp only[Prod.mk.injEq]at hd;obtain⟨h1,h2,h3,h4,h5,h6⟩:=hd;have hb:fn.body=some (Po fn):=by
  unfold Po;cases hb:fn.body with
  |none=>rw[hb]at h2;simp at h2
  |some c=>rfl
 exact B5 Nr hc h1 hb h3 h4 h5 h6 (hl hc) S ee Bi
theorem G3{d:Nat}{env:Env}(aj:∀k,d<=k->Jc (V.call par k) env.call){id:Nat}{r:RFn}(OL:rfT id=r)
  (h1:∀{C:V.Callee},Jc C env.call->∀c'∈loops env.join r.assign,Mc env.loop (vc par C false [] r.n) c') (h2:∀{C:V.Callee},Jc C env.call->∀c'∈loops env.join r.body,Mc env.loop (vc par C false [] r.n) c') {A' R:Type} {S:FS A' R} {m:A'->Option R} {mc:(X:Type)->A'->(R->Option X)->Option X}
  (ee:∀X u K,KN par Pa env id r (S.sk.args u) (S.sk.heap u) K=mc X (S.a u) (fun r=>S.o _ (S.a u) r K))
  (Bi:∀X a K,mc X a K=(m a).bind K):OKY (d+1) (S.sp m):=by
 intro k hk;obtain⟨k,rfl⟩:∃j,k=j+1:=⟨k-1,by omega⟩;have hc:=aj k (by omega);exact D3 Nr hc OL (h1 hc) (h2 hc) S ee Bi
theorem nn:(∀{α β:Type}(b:Bool)(x y:Option α)(k:α->Option β),(cond b x y).bind k=cond b (x.bind k) (y.bind k))/\(∀{α β:Type}(b:Bool)(x:Option α)(k:α->Option β),(ask b x).bind k=ask b (x.bind k))/\(∀{α β γ δ:Type}(e:α ⊕ β)(f:α->Option γ)(g:β->Option γ)(k:γ->Option δ),(e.elim f g).bind k=e.elim (fun a=>(f a).bind k) (fun a=>(g a).bind k))/\(∀{α β γ:Type}(x:Option α)(f:α->Option β)(g:β->Option γ),(x.bind f).bind g=x.bind fun a=>(f a).bind g)/\
  (∀{α β:Type}(a:α)(f:α->Option β),(some a).bind f=f a)/\(∀{α β:Type}(f:α->Option β),(none:Option α).bind f=none)/\(∀{α β γ:Type}(f:α->γ)(g:β->γ)(a:α),Sum.elim f g (.inl a)=f a)/\∀{α β γ:Type}(f:α->γ)(g:β->γ)(b:β),Sum.elim f g (.inr b)=g b:=
 ⟨n1,n2,n3,n4,n5,n6,n7,n8⟩
theorem fO{d:Nat}{env:Env}(aj:∀k,d<=k->Jc (V.call par k) env.call){f:FuncId}{fn:Func}{A' R:Type}{S:FS A' R}{m:A'->Option R}{mc:(X:Type)->A'->(R->Option X)->Option X}(Bi:∀X a K,mc X a K=(m a).bind K)(Fa:List Nat:=[])(sh:Sh:= .any)(fz:Bool:=false)
 (hl:∀{C:V.Callee},Jc C env.call->∀c'∈loops env.join (Po fn),Mc env.loop (vc par C true Fa fn.ntmps) c':=by intro _ _;refine nc ?_ Kb;kernel_rfl)
 (hd:(par.fns f,(match fn.body with|some _=>true|none=>false),par.ext f,par.loc f,par.keep f,par.AU f)=(some fn,true,none,Fa,ua fn.ntmps,fz):=by kernel_rfl)
 (ee:∀X u K,AJ par Pa env Fa fn sh fz (S.sk.args u) (S.sk.heap u) K=mc X (S.a u) (fun r=>S.o _ (S.a u) r K):=by intro _ _ _;kernel_rfl):OK (d+1) f (S.sp m):=gal aj hd hl ee Bi
section
variable {C:V.Callee}{rf:Bool}{Fa:List Nat}{n:Nat}
theorem lO{env:Env}(hc:Jc C env.call){c:Code}{P T E:Type}(L:LD P T E)(Bi:∀Y p t ki ke,L.st Y p t ki ke=(L.m p t).bind (Sum.elim ki ke))
 (hl:∀c'∈loops env.join c,Mc env.loop (vc par C rf Fa n) c':=by refine nc ?_ Kb;kernel_rfl)
 (hk:(Rj n L.Dd&&L.pe.all fun q=>Rj n q.2)=true:=by kernel_rfl)
 (Ai:∀p t,code par Pa env Fa n c (L.sk.fill (L.n p t)) (vW L.Dd (Su L.pe))=L.st _ p t (fun t=>some (.inl (L.sk.fill (L.n p t)))) (fun e=>some (.inr (L.o _ p e Prod.mk))):=by intro _ _;kernel_rfl)
 (oJ:∀u,L.n (L.p u) (L.t u)=u:=by intro _;rfl) (ho:∀Z p e K,L.o Z p e K=K (L.o _ p e Prod.mk).1 (L.o _ p e Prod.mk).2:=by intro _ _ e _;first|rfl|(rcases e with e|e<;>rfl)|(rcases e with e|e|e<;>rfl)|(rcases e with e|e|e|e<;>rfl)|exact nomatch e)
 (hq:∀X s K,env.loop X (vf c) s K=L.q X s K:=by intro _ _ _;kernel_rfl):Mc env.loop (vc par C rf Fa n) (.loop c):=qR Nr hc hl L hk Bi Ai oJ ho hq
theorem pO{env Jd:Env}(hc:Jc C env.call)(Qf:Jd.call=env.call){c:Code}{P E:Type}(L:PD P E)(Bi:∀Y p ke,L.st Y p ke=(L.m p).bind ke)
 (hl:∀c'∈loops Jd.join c,Mc Jd.loop (vc par C rf Fa n) c':=by refine nc ?_ Kb;kernel_rfl)
 (hk:(Rj n L.Dd&&L.pe.all fun q=>Rj n q.2)=true:=by kernel_rfl)
 (Ai:∀u,code par Pa Jd Fa n c (L.sk.fill u) (fun ex s=>(Bp (Su L.pe ex) s).bind fun s=>some (ex,s))=L.st _ (L.p u) (fun e=>some (L.o _ (L.p u) e Prod.mk)):=by intro _;kernel_rfl)
 (ho:∀Z p e K,L.o Z p e K=K (L.o _ p e Prod.mk).1 (L.o _ p e Prod.mk).2:=by intro _ _ e _;first|rfl|(rcases e with e|e<;>rfl)|(rcases e with e|e|e<;>rfl)|(rcases e with e|e|e|e<;>rfl)|exact nomatch e)
 (hq:∀X s K,env.loop X (keyOf c) s K=L.q X s K:=by intro _ _ _;kernel_rfl):Mc env.loop (vc par C rf Fa n) c:=iB Nr hc Qf hl L hk Bi Ai ho hq
theorem pN{env Jd:Env}(hc:Jc C env.call)(Qf:Jd.call=env.call){c:Code}{P E:Type}(L:PD P E)(Bi:∀Y p ke,L.st Y p ke=(L.m p).bind ke)(n':P->L.sk.T)
 (hl:∀c'∈loops Jd.join c,Mc Jd.loop (vc par C rf Fa n) c':=by refine nc ?_ Kb;kernel_rfl)
 (hk:(Rj n L.Dd&&L.pe.all fun q=>Rj n q.2)=true:=by kernel_rfl)
 (Ai:∀p,code par Pa Jd Fa n c (L.sk.fill (n' p)) (fun ex s=>(Bp (Su L.pe ex) s).bind fun s=>some (ex,s))=L.st _ p (fun e=>some (L.o _ p e Prod.mk)):=by intro _;kernel_rfl)
 (oJ:∀u,n' (L.p u)=u:=by intro _;rfl) (ho:∀Z p e K,L.o Z p e K=K (L.o _ p e Prod.mk).1 (L.o _ p e Prod.mk).2:=by intro _ _ e _;first|rfl|(rcases e with e|e<;>rfl)|(rcases e with e|e|e<;>rfl)|(rcases e with e|e|e|e<;>rfl)|exact nomatch e)
 (hq:∀X s K,env.loop X (keyOf c) s K=L.q X s K:=by intro _ _ _;kernel_rfl):Mc env.loop (vc par C rf Fa n) c:=iB Nr hc Qf hl L hk Bi (fun u=>by have:=Ai (L.p u);rwa [oJ]at this) ho hq
theorem rO{env:Env}(hc:Jc C env.call){id:Nat}{ks:List Nat}{g:Operand}{ps:Array Tmp}{a b:Code}{P E:Type}(L:PD P E)(Bi:∀Y p ke,L.st Y p ke=(L.m p).bind ke)(OL:GC.rf id=⟨n,ps.toList,a,b⟩:=by kernel_rfl)
 (hk:(Rj n L.Dd&&L.pe.all fun q=>Rj n q.2)=true:=by kernel_rfl)
 (Ai:∀u,EI par Pa env id n ks g (L.sk.fill u) (fun ex s=>(Bp (Su L.pe ex) s).bind fun s=>some (ex,s))=L.st _ (L.p u) (fun e=>some (L.o _ (L.p u) e Prod.mk)):=by intro _;kernel_rfl)
 (ho:∀Z p e K,L.o Z p e K=K (L.o _ p e Prod.mk).1 (L.o _ p e Prod.mk).2:=by intro _ _ e _;first|rfl|(rcases e with e|e<;>rfl)|(rcases e with e|e|e<;>rfl)|(rcases e with e|e|e|e<;>rfl)|exact nomatch e)
 (hq:∀X s K,env.loop X (keyOf (.rangeFunc g ps a b)) s K=L.q X s K:=by intro _ _ _;kernel_rfl):Mc env.loop (vc par C true Fa n) (.rangeFunc g ps a b):=yL Nr hc rfl OL L hk Bi Ai ho hq
end
abbrev w7.i:w7:= .v (.int .i64)
abbrev Sk.i:Sk:= .int .i64
abbrev CT.i:CT:= .int .i64
abbrev KT.i:KT:= .int .i64
abbrev w7.p(a b:Nat):w7:= .v (.ptr a b)
def cL:List Sk->Sk
 |[]=> .nil
 |a::l=> .cons a (cL l)
abbrev zV:Sk:= .cons (.int .i64) (.cons (.int .i64) (.cons (.int .i64) (.cons (.int .i64) (.cons (.int .i64) (.cons (.lit (.int .i64)) (.cons (.lit (.slice (.int .i64))) (.cons (.lit (.slice (.int .i64))) .nil)))))))
abbrev jb:Sk:= .cons (.lit Qd) (.cons (.int .i64) (.cons (.int .i64) (.cons (.int .i64) (.cons (.lit Sd) (.cons (.lit Sf) (.cons (.lit Sd) (.cons (.lit ya) .nil)))))))
abbrev Mb:Sk:= .cons (.int .i64) (.cons (.int .i64) (.cons (.int .i64) (.cons (.int .i64) (.cons (.int .i64) (.cons (.int .i64) (.cons (.int .i64) (.cons (.int .i64) .nil)))))))
abbrev uB:Sk:= .cons (.int .i64) (.cons (.int .i64) (.cons (.int .i64) (.cons (.int .i64) .nil)))
abbrev Kd:Sk:= .cons (.lit .bool) (.cons (.lit (.pair .bool .bool)) (.cons (.lit ya) .nil))
abbrev Y_:Sk:= .cons .str (.cons (.int .i64) (.cons (.int .i64) (.cons (.int .i64) .nil)))
abbrev I4:Sk:= .cons .str (.cons (.int .i64) (.cons (.int .i64) .nil))
abbrev Gg:Sk:= .cons (.int .i64) (.cons (.int .i64) .nil)
abbrev kr0:Sk:= .cons (.lit Qd) (.cons (.int .i64) (.cons (.int .i64) (.cons (.int .i64) (.cons (.lit Sd) (.cons (.lit Sf) (.cons (.lit Sd) (.cons (.lit ya) (.cons (.lit (.int .i64)) (.cons (.int .i64) (.cons (.all 1) (.cons (.int .i64) (.cons (.int .i64) (.cons (.int .i64) (.cons (.int .i64) (.cons (.int .i64) (.cons (.int .i64) (.cons .Xa (.cons (.all 2) (.cons .Xa .nil)))))))))))))))))))
abbrev kr1:Sk:= .cons (.lit Qd) (.cons (.int .i64) (.cons (.int .i64) (.cons (.int .i64) (.cons (.lit Sd) (.cons (.lit Sf) (.cons (.lit Sd) (.cons (.lit ya) (.cons (.lit (.int .i64)) (.cons (.int .i64) (.cons (.all 1) (.cons (.int .i64) (.cons (.int .i64) (.cons (.int .i64) (.cons (.int .i64) (.cons (.int .i64) (.cons (.int .i64) (.cons .Xa (.cons .Xa (.cons .Xa .nil)))))))))))))))))))
abbrev JL:Sk:= .cons (.all 2) (.cons (.all 3) (.cons (.all 4) .nil))
abbrev Cp:Sk:= .cons (.lit Qd) (.cons (.int .i64) (.cons (.int .i64) (.cons (.int .i64) (.cons (.lit Sd) (.cons (.lit Sf) (.cons (.lit Sd) (.cons (.lit ya) (.cons (.lit (.int .i64)) (.cons (.int .i64) (.cons (.all 1) (.cons (.int .i64) (.cons (.int .i64) (.cons (.int .i64) (.cons (.int .i64) (.cons (.int .i64) (.cons (.int .i64) (.cons .Xa (.cons (.all 2) (.cons (.all 3) .nil)))))))))))))))))))
abbrev aO:Sk:= .cons (.lit Qd) (.cons (.int .i64) (.cons (.int .i64) (.cons (.int .i64) (.cons (.lit Sd) (.cons (.lit Sf) (.cons (.lit Sd) (.cons (.lit ya) (.cons (.lit (.int .i64)) (.cons (.int .i64) (.cons (.all 3) (.cons (.int .i64) (.cons (.int .i64) (.cons (.int .i64) (.cons (.int .i64) (.cons (.int .i64) (.cons (.int .i64) (.cons .Xa (.cons (.all 4) (.cons (.all 5) .nil)))))))))))))))))))
abbrev kr6:Sk:= .cons (.lit Qd) (.cons (.int .i64) (.cons (.int .i64) (.cons (.int .i64) (.cons (.lit Sd) (.cons (.lit Sf) (.cons (.lit Sd) (.cons (.lit ya) (.cons (.lit (.int .i64)) (.cons (.int .i64) (.cons (.all 8) (.cons (.int .i64) (.cons (.int .i64) (.cons (.int .i64) (.cons (.int .i64) (.cons (.int .i64) (.cons (.int .i64) (.cons .Xa (.cons (.all 9) (.cons (.all 10) .nil)))))))))))))))))))
abbrev uR:Sk:= .cons (.all 3) (.cons (.all 4) (.cons (.all 5) .nil))
abbrev iI:Sk:= .cons (.all 3) (.cons (.all 4) (.cons (.all 6) .nil))
abbrev kr9:Sk:= .cons (.all 5) (.cons (.all 6) (.cons (.all 7) .nil))
abbrev G4:Sk:= .cons (.all 0) (.cons (.all 1) (.cons (.all 2) .nil))
abbrev Kj:Sk:= .cons (.all 1) (.cons (.all 2) (.cons (.all 3) .nil))
abbrev ku:Sk:= .cons (.all 6) (.cons (.all 7) (.cons (.all 8) .nil))
abbrev xV:Sk:= .cons (.lit Qd) (.cons (.int .i64) (.cons (.int .i64) (.cons (.int .i64) (.cons (.lit Sd) (.cons (.lit Sf) (.cons (.lit Sd) (.cons (.lit ya) (.cons (.lit (.int .i64)) (.cons (.int .i64) (.cons (.int .i64) (.cons (.all 1) (.cons (.int .i64) (.cons (.int .i64) (.cons (.int .i64) (.cons (.int .i64) (.cons (.int .i64) (.cons .Xa (.cons (.all 2) (.cons .Xa .nil)))))))))))))))))))
abbrev Yae:Sk:= .cons (.lit Qd) (.cons (.int .i64) (.cons (.int .i64) (.cons (.int .i64) (.cons (.lit Sd) (.cons (.lit Sf) (.cons (.lit Sd) (.cons (.lit ya) (.cons (.lit (.int .i64)) (.cons (.int .i64) (.cons (.int .i64) (.cons (.all 1) (.cons (.int .i64) (.cons (.int .i64) (.cons (.int .i64) (.cons (.int .i64) (.cons (.int .i64) (.cons .Xa (.cons .Xa (.cons .Xa .nil)))))))))))))))))))
abbrev Md:Sk:= .cons (.lit Qd) (.cons (.int .i64) (.cons (.int .i64) (.cons (.int .i64) (.cons (.lit Sd) (.cons (.lit Sf) (.cons (.lit Sd) (.cons (.lit ya) (.cons (.lit (.int .i64)) (.cons (.int .i64) (.cons (.int .i64) (.cons (.all 1) (.cons (.int .i64) (.cons (.int .i64) (.cons (.int .i64) (.cons (.int .i64) (.cons (.int .i64) (.cons .Xa (.cons (.all 2) (.cons (.all 3) .nil)))))))))))))))))))
abbrev aJ:Sk:= .cons (.lit Qd) (.cons (.int .i64) (.cons (.int .i64) (.cons (.int .i64) (.cons (.lit Sd) (.cons (.lit Sf) (.cons (.lit Sd) (.cons (.lit ya) (.cons (.lit (.int .i64)) (.cons (.int .i64) (.cons (.int .i64) (.cons (.all 1) (.cons (.int .i64) (.cons (.int .i64) (.cons (.int .i64) (.cons (.int .i64) (.cons (.int .i64) (.cons .Xa (.cons (.all 2) (.cons (.all 4) .nil)))))))))))))))))))
abbrev r3{A0 A1 A2 B R:Type}(x:A0×A1×A2×B)(y:R):A0×A1×A2×R:=(x.1,x.2.1,x.2.2.1,y)
abbrev r4{A0 A1 A2 A3 B R:Type}(x:A0×A1×A2×A3×B)(y:R):A0×A1×A2×A3×R:=(x.1,x.2.1,x.2.2.1,x.2.2.2.1,y)
abbrev r5{A0 A1 A2 A3 A4 B R:Type}(x:A0×A1×A2×A3×A4×B)(y:R):A0×A1×A2×A3×A4×R:=(x.1,x.2.1,x.2.2.1,x.2.2.2.1,x.2.2.2.2.1,y)
abbrev r6{A0 A1 A2 A3 A4 A5 B R:Type}(x:A0×A1×A2×A3×A4×A5×B)(y:R):A0×A1×A2×A3×A4×A5×R:=(x.1,x.2.1,x.2.2.1,x.2.2.2.1,x.2.2.2.2.1,x.2.2.2.2.2.1,y)
abbrev r7{A0 A1 A2 A3 A4 A5 A6 B R:Type}(x:A0×A1×A2×A3×A4×A5×A6×B)(y:R):A0×A1×A2×A3×A4×A5×A6×R:=(x.1,x.2.1,x.2.2.1,x.2.2.2.1,x.2.2.2.2.1,x.2.2.2.2.2.1,x.2.2.2.2.2.2.1,y)
abbrev r8{A0 A1 A2 A3 A4 A5 A6 A7 B R:Type}(x:A0×A1×A2×A3×A4×A5×A6×A7×B)(y:R):A0×A1×A2×A3×A4×A5×A6×A7×R:=(x.1,x.2.1,x.2.2.1,x.2.2.2.1,x.2.2.2.2.1,x.2.2.2.2.2.1,x.2.2.2.2.2.2.1,x.2.2.2.2.2.2.2.1,y)
abbrev r9{A0 A1 A2 A3 A4 A5 A6 A7 A8 B R:Type}(x:A0×A1×A2×A3×A4×A5×A6×A7×A8×B)(y:R):A0×A1×A2×A3×A4×A5×A6×A7×A8×R:=(x.1,x.2.1,x.2.2.1,x.2.2.2.1,x.2.2.2.2.1,x.2.2.2.2.2.1,x.2.2.2.2.2.2.1,x.2.2.2.2.2.2.2.1,x.2.2.2.2.2.2.2.2.1,y)
abbrev Zh{A0 A1 A2 A3 A4 A5 A6 A7 A8 A9 B R:Type}(x:A0×A1×A2×A3×A4×A5×A6×A7×A8×A9×B)(y:R):A0×A1×A2×A3×A4×A5×A6×A7×A8×A9×R:=(x.1,x.2.1,x.2.2.1,x.2.2.2.1,x.2.2.2.2.1,x.2.2.2.2.2.1,x.2.2.2.2.2.2.1,x.2.2.2.2.2.2.2.1,x.2.2.2.2.2.2.2.2.1,x.2.2.2.2.2.2.2.2.2.1,y)
abbrev Eg{A0 A1 A2 A3 A4 A5 A6 A7 A8 A9 Kn B R:Type}(x:A0×A1×A2×A3×A4×A5×A6×A7×A8×A9×Kn×B)(y:R):A0×A1×A2×A3×A4×A5×A6×A7×A8×A9×Kn×R:=(x.1,x.2.1,x.2.2.1,x.2.2.2.1,x.2.2.2.2.1,x.2.2.2.2.2.1,x.2.2.2.2.2.2.1,x.2.2.2.2.2.2.2.1,x.2.2.2.2.2.2.2.2.1,x.2.2.2.2.2.2.2.2.2.1,x.2.2.2.2.2.2.2.2.2.2.1,y)
abbrev Y0:Type:=Ga×(List Int)×Wa
abbrev Y1:Type:=(List Int)×(List Wa)×Int×Int×Ga×Wa
abbrev Y2:Type:=(List Wa)×(List Cb)×(List Zb)×(List Cb)×(List Aa)
abbrev Y3:Type:=(List Bool)×(List (Bool×Bool))×(List Aa)
abbrev Y4:Type:=Ga×(List Int)×Int
abbrev Y5:Type:=Int×(List Int)×(List (List Int))
abbrev Y6:Type:=Int×(List (List Int))
abbrev Y7:Type:=Int×Int×Int×(List Bool)×(List (Bool×Bool))×(List Aa)×Int×(List Wa)×Int×Int×Int×(List Cb)×(List Zb)×(List Cb)×(List Aa)×(List Int)×(List (List Int))
abbrev Y8:Type:=(List Bool)×(List (Bool×Bool))×Int
abbrev TC:Type:=Int×Int×Int×(List Int)
abbrev Y14:Type:=Int×Int×(List Int)
abbrev Y15:Type:=Int×Int×Int×(List (List Int))
abbrev Y17:Type:=Int×Int×(List (List Int))
abbrev Qt:Type:=Wa×(List Wa)×Int×Int×Int×(List Cb)×(List Zb)×(List Cb)×(List Aa)×(List Int)×Int×Int×Int×Int×Int×Int×Int×(List Int)×(List (List Int))×(List (List Int))
abbrev Y19:Type:=Wa×Int×(List Wa)×Int×Int×Int×(List Cb)×(List Zb)×(List Cb)×(List Aa)×(List Int)×Int×Int×Int×Int×Int×Int×Int×(List Int)×(List (List Int))×(List (List Int))
abbrev wQ:Type:=Wa×Bool×(List Wa)×Int×Int×Int×(List Cb)×(List Zb)×(List Cb)×(List Aa)×(List Int)×Int×Int×Int×Int×Int×Int×Int×(List Int)×(List (List Int))×(List (List Int))
abbrev Y21:Type:=Int×(List Wa)×Int×Int×Int×(List Cb)×(List Zb)×(List Cb)×(List Aa)×(List Int)×Int×Int×Int×Int×Int×Int×Int×(List Int)×(List (List Int))×(List (List Int))
abbrev U2:Type:=(List Wa)×Int×Int×Int×(List Cb)×(List Zb)×(List Cb)×(List Aa)×(List Int)×Int×Int×Int×Int×Int×Int×Int×(List Int)×(List (List Int))×(List (List Int))
abbrev Y23:Type:=Ga×(List Int)×Int×Int×Int×Int×Int×Int×Int×(List Int)×(List (List Int))×(List (List Int))
abbrev Y24:Type:=Ga×(List Int)×Int×Int×(List Bool)×(List (Bool×Bool))×(List Aa)×Int×Ga
abbrev Y25:Type:=Int×Int×Int×Int×Int×(List Int)×Int×(List Bool)×(List (Bool×Bool))×Int×(List (List Int))×(List (List Int))
abbrev Y26:Type:=Int×(List Bool)×(List (Bool×Bool))×Int×Int×Int×Int×Int×Int×Int×Int×(List Int)×(List (List Int))×(List (List Int))
abbrev Y27:Type:=Aa×(List Aa)
abbrev Y28:Type:=EN×(List Bool)×(List (Bool×Bool))×(List Aa)
abbrev p7:Type:=vb×(List Bool)×(List (Bool×Bool))×(List Aa)
abbrev vQ:Type:=Int×(List Bool)×(List (Bool×Bool))×(List Aa)
abbrev p_:Type:=Ga×(List (List Int))×Int
abbrev Y32:Type:=(List Bool)×(List (Bool×Bool))×(List Aa)×Int
abbrev Y33:Type:=Int×Int×Int×(Bool×Bool)×vb
abbrev Y34:Type:=vb×(List Bool)×(List (Bool×Bool))×(List Aa)×Int
abbrev Y35:Type:=(List Bool)×(List (Bool×Bool))×(List Aa)×(List Bool)×(List (Bool×Bool))×(List Aa)×Bool
abbrev Y36:Type:=(List (Bool×Bool))×((List Aa)×Bool)
abbrev Y37:Type:=(List Bool)×(List (Bool×Bool))×(List Aa)×(List Bool)×(List (Bool×Bool))×(List Aa)
abbrev Y38:Type:=(List (Bool×Bool))×((List Aa)×vb)
abbrev Y39:Type:=(List (List Int))×Int
abbrev Y40:Type:=(List Int)×(List Int)
abbrev Y41:Type:=Ga×(List Bool)×(List (Bool×Bool))×(List Aa)
abbrev Y42:Type:=(List Int)×(List (List Int))
abbrev Y43:Type:=Ga×((List Int)×Int)
abbrev Y44:Type:=Int×Int×Int×Int×Int
abbrev Y45:Type:=Int×Int×Int×Int×Int×(List Int)×(List (List Int))×(List (List Int))
abbrev Y46:Type:=Int×Int×Int×Int
abbrev Y47:Type:=Int×Int×Int×Int×(List Int)×(List (List Int))
abbrev Y48:Type:=Int×Int×Int×Int×(List Int)×(List (List Int))×(List (List Int))
abbrev MF:Type:=(List Int)×(Int×(Int×Zq))
abbrev Y50:Type:=(List (List Int))×(List (List Int))
abbrev Y51:Type:=(List Bool)×(List (Bool×Bool))×(List Aa)×Int×Int×Int×Int×Int×Int×Int×(List Int)×(List (List Int))×(List (List Int))
abbrev Y52:Type:=Int×(List Bool)×(List (Bool×Bool))
abbrev Y53:Type:=(List Bool)×(List (Bool×Bool))
abbrev Y54:Type:=Int×Int×Int×ByteArray×Int×Bool×(Ga×vb)
abbrev _root_.Prod.t3{A0 A1 A2 A3:Type}(x:A0×A1×A2×A3):A3:=x.2.2.2
abbrev _root_.Prod.t4{A0 A1 A2 A3 A4:Type}(x:A0×A1×A2×A3×A4):A4:=x.2.2.2.2
abbrev _root_.Prod.t5{A0 A1 A2 A3 A4 A5:Type}(x:A0×A1×A2×A3×A4×A5):A5:=x.2.2.2.2.2
abbrev _root_.Prod.t6{A0 A1 A2 A3 A4 A5 A6:Type}(x:A0×A1×A2×A3×A4×A5×A6):A6:=x.2.2.2.2.2.2
abbrev _root_.Prod.t7{A0 A1 A2 A3 A4 A5 A6 A7:Type}(x:A0×A1×A2×A3×A4×A5×A6×A7):A7:=x.2.2.2.2.2.2.2
abbrev _root_.Prod.t8{A0 A1 A2 A3 A4 A5 A6 A7 A8:Type}(x:A0×A1×A2×A3×A4×A5×A6×A7×A8):A8:=x.2.2.2.2.2.2.2.2
abbrev _root_.Prod.t9{A0 A1 A2 A3 A4 A5 A6 A7 A8 A9:Type}(x:A0×A1×A2×A3×A4×A5×A6×A7×A8×A9):A9:=x.2.2.2.2.2.2.2.2.2
abbrev _root_.Prod.t10{A0 A1 A2 A3 A4 A5 A6 A7 A8 A9 Kn:Type}(x:A0×A1×A2×A3×A4×A5×A6×A7×A8×A9×Kn):Kn:=x.2.2.2.2.2.2.2.2.2.2
abbrev _root_.Prod.t11{A0 A1 A2 A3 A4 A5 A6 A7 A8 A9 Kn Lp:Type}(x:A0×A1×A2×A3×A4×A5×A6×A7×A8×A9×Kn×Lp):Lp:=x.2.2.2.2.2.2.2.2.2.2.2
abbrev _root_.Prod.t12{A0 A1 A2 A3 A4 A5 A6 A7 A8 A9 Kn Lp Ts:Type}(x:A0×A1×A2×A3×A4×A5×A6×A7×A8×A9×Kn×Lp×Ts):Ts:=x.2.2.2.2.2.2.2.2.2.2.2.2
abbrev _root_.Prod.t13{A0 A1 A2 A3 A4 A5 A6 A7 A8 A9 Kn Lp Ts Rt:Type}(x:A0×A1×A2×A3×A4×A5×A6×A7×A8×A9×Kn×Lp×Ts×Rt):Rt:=x.2.2.2.2.2.2.2.2.2.2.2.2.2
abbrev _root_.Prod.t14{A0 A1 A2 A3 A4 A5 A6 A7 A8 A9 Kn Lp Ts Rt Iu:Type}(x:A0×A1×A2×A3×A4×A5×A6×A7×A8×A9×Kn×Lp×Ts×Rt×Iu):Iu:=x.2.2.2.2.2.2.2.2.2.2.2.2.2.2
abbrev _root_.Prod.t15{A0 A1 A2 A3 A4 A5 A6 A7 A8 A9 Kn Lp Ts Rt Iu Rw:Type}(x:A0×A1×A2×A3×A4×A5×A6×A7×A8×A9×Kn×Lp×Ts×Rt×Iu×Rw):Rw:=x.2.2.2.2.2.2.2.2.2.2.2.2.2.2.2
abbrev _root_.Prod.t16{A0 A1 A2 A3 A4 A5 A6 A7 A8 A9 Kn Lp Ts Rt Iu Rw uz:Type}(x:A0×A1×A2×A3×A4×A5×A6×A7×A8×A9×Kn×Lp×Ts×Rt×Iu×Rw×uz):uz:=x.2.2.2.2.2.2.2.2.2.2.2.2.2.2.2.2
abbrev _root_.Prod.t17{A0 A1 A2 A3 A4 A5 A6 A7 A8 A9 Kn Lp Ts Rt Iu Rw uz EA:Type}(x:A0×A1×A2×A3×A4×A5×A6×A7×A8×A9×Kn×Lp×Ts×Rt×Iu×Rw×uz×EA):EA:=x.2.2.2.2.2.2.2.2.2.2.2.2.2.2.2.2.2
abbrev _root_.Prod.t18{A0 A1 A2 A3 A4 A5 A6 A7 A8 A9 Kn Lp Ts Rt Iu Rw uz EA VC:Type}(x:A0×A1×A2×A3×A4×A5×A6×A7×A8×A9×Kn×Lp×Ts×Rt×Iu×Rw×uz×EA×VC):VC:=x.2.2.2.2.2.2.2.2.2.2.2.2.2.2.2.2.2.2
abbrev _root_.Prod.t19{A0 A1 A2 A3 A4 A5 A6 A7 A8 A9 Kn Lp Ts Rt Iu Rw uz EA VC OF:Type}(x:A0×A1×A2×A3×A4×A5×A6×A7×A8×A9×Kn×Lp×Ts×Rt×Iu×Rw×uz×EA×VC×OF):OF:=x.2.2.2.2.2.2.2.2.2.2.2.2.2.2.2.2.2.2.2
abbrev _root_.Prod.t20{A0 A1 A2 A3 A4 A5 A6 A7 A8 A9 Kn Lp Ts Rt Iu Rw uz EA VC OF pI:Type}(x:A0×A1×A2×A3×A4×A5×A6×A7×A8×A9×Kn×Lp×Ts×Rt×Iu×Rw×uz×EA×VC×OF×pI):pI:=x.2.2.2.2.2.2.2.2.2.2.2.2.2.2.2.2.2.2.2.2
abbrev _root_.Prod.t21{A0 A1 A2 A3 A4 A5 A6 A7 A8 A9 Kn Lp Ts Rt Iu Rw uz EA VC OF pI WK:Type}(x:A0×A1×A2×A3×A4×A5×A6×A7×A8×A9×Kn×Lp×Ts×Rt×Iu×Rw×uz×EA×VC×OF×pI×WK):WK:=x.2.2.2.2.2.2.2.2.2.2.2.2.2.2.2.2.2.2.2.2.2
abbrev _root_.Prod.t22{A0 A1 A2 A3 A4 A5 A6 A7 A8 A9 Kn Lp Ts Rt Iu Rw uz EA VC OF pI WK AQ:Type}(x:A0×A1×A2×A3×A4×A5×A6×A7×A8×A9×Kn×Lp×Ts×Rt×Iu×Rw×uz×EA×VC×OF×pI×WK×AQ):AQ:=x.2.2.2.2.2.2.2.2.2.2.2.2.2.2.2.2.2.2.2.2.2.2
abbrev _root_.Prod.t23{A0 A1 A2 A3 A4 A5 A6 A7 A8 A9 Kn Lp Ts Rt Iu Rw uz EA VC OF pI WK AQ DU:Type}(x:A0×A1×A2×A3×A4×A5×A6×A7×A8×A9×Kn×Lp×Ts×Rt×Iu×Rw×uz×EA×VC×OF×pI×WK×AQ×DU):DU:=x.2.2.2.2.2.2.2.2.2.2.2.2.2.2.2.2.2.2.2.2.2.2.2
abbrev _root_.Prod.t24{A0 A1 A2 A3 A4 A5 A6 A7 A8 A9 Kn Lp Ts Rt Iu Rw uz EA VC OF pI WK AQ DU o3:Type}(x:A0×A1×A2×A3×A4×A5×A6×A7×A8×A9×Kn×Lp×Ts×Rt×Iu×Rw×uz×EA×VC×OF×pI×WK×AQ×DU×o3):o3:=x.2.2.2.2.2.2.2.2.2.2.2.2.2.2.2.2.2.2.2.2.2.2.2.2
abbrev _root_.Prod.t25{A0 A1 A2 A3 A4 A5 A6 A7 A8 A9 Kn Lp Ts Rt Iu Rw uz EA VC OF pI WK AQ DU o3 t_:Type}(x:A0×A1×A2×A3×A4×A5×A6×A7×A8×A9×Kn×Lp×Ts×Rt×Iu×Rw×uz×EA×VC×OF×pI×WK×AQ×DU×o3×t_):t_:=x.2.2.2.2.2.2.2.2.2.2.2.2.2.2.2.2.2.2.2.2.2.2.2.2.2
abbrev _root_.Prod.t26{A0 A1 A2 A3 A4 A5 A6 A7 A8 A9 Kn Lp Ts Rt Iu Rw uz EA VC OF pI WK AQ DU o3 t_ A26:Type}(x:A0×A1×A2×A3×A4×A5×A6×A7×A8×A9×Kn×Lp×Ts×Rt×Iu×Rw×uz×EA×VC×OF×pI×WK×AQ×DU×o3×t_×A26):A26:=x.2.2.2.2.2.2.2.2.2.2.2.2.2.2.2.2.2.2.2.2.2.2.2.2.2.2
abbrev _root_.Prod.t27{A0 A1 A2 A3 A4 A5 A6 A7 A8 A9 Kn Lp Ts Rt Iu Rw uz EA VC OF pI WK AQ DU o3 t_ A26 A27:Type}(x:A0×A1×A2×A3×A4×A5×A6×A7×A8×A9×Kn×Lp×Ts×Rt×Iu×Rw×uz×EA×VC×OF×pI×WK×AQ×DU×o3×t_×A26×A27):A27:=x.2.2.2.2.2.2.2.2.2.2.2.2.2.2.2.2.2.2.2.2.2.2.2.2.2.2.2
abbrev _root_.Prod.t28{A0 A1 A2 A3 A4 A5 A6 A7 A8 A9 Kn Lp Ts Rt Iu Rw uz EA VC OF pI WK AQ DU o3 t_ A26 A27 A28:Type}(x:A0×A1×A2×A3×A4×A5×A6×A7×A8×A9×Kn×Lp×Ts×Rt×Iu×Rw×uz×EA×VC×OF×pI×WK×AQ×DU×o3×t_×A26×A27×A28):A28:=x.2.2.2.2.2.2.2.2.2.2.2.2.2.2.2.2.2.2.2.2.2.2.2.2.2.2.2.2
abbrev q3{A B C Z:Type}(x:A×B×C×Z):A×B×C:=(x.1,x.2.1,x.2.2.1)
abbrev q4{A B C D Z:Type}(x:A×B×C×D×Z):A×B×C×D:=(x.1,x.2.1,x.2.2.1,x.2.2.2.1)
abbrev q5{A B C D E Z:Type}(x:A×B×C×D×E×Z):A×B×C×D×E:=(x.1,x.2.1,x.2.2.1,x.2.2.2.1,x.2.2.2.2.1)
abbrev q6{A B C D E F Z:Type}(x:A×B×C×D×E×F×Z):A×B×C×D×E×F:=(x.1,x.2.1,x.2.2.1,x.2.2.2.1,x.2.2.2.2.1,x.2.2.2.2.2.1)
abbrev q7{A B C D E F G Z:Type}(x:A×B×C×D×E×F×G×Z):A×B×C×D×E×F×G:=(x.1,x.2.1,x.2.2.1,x.2.2.2.1,x.2.2.2.2.1,x.2.2.2.2.2.1,x.2.2.2.2.2.2.1)
abbrev q8{A B C D E F G H Z:Type}(x:A×B×C×D×E×F×G×H×Z):A×B×C×D×E×F×G×H:=(x.1,x.2.1,x.2.2.1,x.2.2.2.1,x.2.2.2.2.1,x.2.2.2.2.2.1,x.2.2.2.2.2.2.1,x.2.2.2.2.2.2.2.1)
end Go.U
namespace Go.U
open Go Go.Proofs
def Kf(n:Int):ByteArray:=⟨(Lib.itoa n).toArray⟩
def clone{α:Type}(n:Nat)(a:List α):Option (List α):=ask (decide (a.length * n<=70368744177664)&&decide (a.length<9223372036854775808)) (some a)
abbrev Ft:=V.Ft
abbrev Mh:=V.Mh
abbrev Vp:=V.Vp
def jC(a:Int×Int):Option ByteArray:=ask (decide (-9223372036854775808<=a.1)&&decide (a.1<=9223372036854775807)&&decide (a.2=10)) (some (Kf a.1))
def qp(a:ByteArray×ByteArray):Option (Int×ByteArray):=ask (decide (a.2.size+a.1.size<=70368744177664)) (some (nt a.1.size,a.2++a.1))
def cZ(a:ByteArray):Option ByteArray:=some a
def uP(a:List Bool):Option (List Bool):=clone 1 a
def tP(a:List (Bool×Bool)):Option (List (Bool×Bool)):=clone 2 a
def sP(a:List Aa):Option (List Aa):=clone 16 a
def kF(a:List Aa):Option (List Aa):=ask (decide (a.length<4611686018427387904)) (some (Mh a))
def vP(a:List Int):Option (List Int):=ask (decide (a.length<4611686018427387904)) (some (Vp a))
def wP(a:Int×Int×List Int):Option (List Int):=ask (decide (0<=a.1)&&decide (a.1<=a.2.1)&&decide (a.2.1<=a.2.2.length)) (some (a.2.2.take a.1.toNat++a.2.2.drop a.2.1.toNat))
def E9:FS ((List Bool)) ((List Bool))where
 sk:=⟨(.cons (.all 0) .nil),[.cells .bool],1⟩
 a:=fun u=>u.2.1
 o:=fun Z a r K=>K (.all 1) ⟨[.cells .bool a,.cells .bool r],1⟩
def BM:Spec:=E9.sp uP
def D9:FS ((List (Bool×Bool))) ((List (Bool×Bool)))where
 sk:=⟨(.cons (.all 0) .nil),[.cells (.pair .bool .bool)],1⟩
 a:=fun u=>u.2.1
 o:=fun Z a r K=>K (.all 1) ⟨[.cells (.pair .bool .bool) a,.cells (.pair .bool .bool) r],1⟩
def AM:Spec:=D9.sp tP
def C9:FS ((List Aa)) ((List Aa))where
 sk:=⟨(.cons (.all 0) .nil),[.cells ya],1⟩
 a:=fun u=>u.2.1
 o:=fun Z a r K=>K (.all 1) ⟨[.cells ya a,.cells ya r],1⟩
def zM:Spec:=C9.sp sP
def y9:FS ((List Aa)) ((List Aa))where
 sk:=⟨(.cons (.all 0) (.cons (.fn 52 .nil) .nil)),[.cells ya],0⟩
 a:=fun u=>u.2.1
 o:=fun Z a r K=>K (.Sc []) ⟨[.cells ya r],0⟩
def wM:Spec:=y9.sp kF
def G9:FS (Int×Int×(List Int)) ((List Int))where
 sk:=⟨(.cons (.all 0) (.cons (.int .i64) (.cons (.int .i64) .nil))),[.cells (.int .i64)],0⟩
 a:=fun u=>(u.1.2.1,u.1.2.2.1,u.2.1)
 o:=fun Z a r K=>K (.all 1) ⟨[.dead,.cells (.int .i64) r],0⟩
def SY:Spec:=G9.sp wP
def F9:FS ((List Int)) ((List Int))where
 sk:=⟨(.cons (.all 0) .nil),[.cells (.int .i64)],0⟩
 a:=fun u=>u.2.1
 o:=fun Z a r K=>K (.Sc []) ⟨[.cells (.int .i64) r],0⟩
def RY:Spec:=F9.sp vP
def WZ:FS (Int×Int) (ByteArray)where
 sk:=⟨(.cons (.int .i64) (.cons (.int .i64) .nil)),[],0⟩
 a:=fun u=>(u.1.1,u.1.2.1)
 o:=fun Z a r K=>K (.str r) ⟨[],0⟩
def lQ:Spec:=WZ.sp jC
def O9:FS (ByteArray×ByteArray) (Int×ByteArray)where
 sk:=⟨(.cons (.ptr 0 0) (.cons .str .nil)),[.um (.all 1),.yp],0⟩
 a:=fun u=>(u.1.2.1,u.2.2.1)
 o:=fun Z a r K=>K (.Sc [.int .i64 r.1,.Rg]) ⟨[.um (.all 2),.dead,.yp r.2],0⟩
def gZ:Spec:=O9.sp qp
def K9:FS (ByteArray) (ByteArray)where
 sk:=⟨(.cons (.ptr 0 0) .nil),[.um (.all 1),.yp],0⟩
 a:=fun u=>u.2.2.1
 o:=fun Z a r K=>K (.str r) ⟨[.um (.all 1),.dead],0⟩
def bZ:Spec:=K9.sp cZ
theorem P6:OK 1 103 lQ:=fun k hk=>by
 obtain⟨j,rfl⟩:∃j,k=j+1:=⟨k-1,by omega⟩;refine D5 (A:=par) (f:=103) rfl fun X args H K out h=> ?_
 obtain⟨u,hu,h⟩:=aa.1 (show(WZ.sk.take args H).bind _=some out from h);obtain⟨h1,h2⟩:=DA.yd hu;obtain⟨⟨n,b,⟨⟩⟩,⟨⟩⟩:=u;have key:∀n b:Int,(jC (n,b)).bind (fun r=>K (.str r) ⟨[],0⟩)=some out->(-9223372036854775808<=n/\n<=9223372036854775807/\b=10)/\K (.str ⟨(Lib.itoa n).toArray⟩) ⟨[],0⟩=some out:=fun n b h'=>by
  simp only[jC,ask]at h';by_cases e1: -9223372036854775808<=n<;>by_cases e2:n<=9223372036854775807<;>by_cases e3:b=10<;>simp[e1,e2,e3]at h'
  exact⟨⟨e1,e2,e3⟩,h'⟩
 exact⟨n,b,h1.symm,h2.symm,key n b h⟩
theorem lac:OK 1 41 bZ:=fun k hk=>by
 obtain⟨j,rfl⟩:∃j,k=j+1:=⟨k-1,by omega⟩;refine OU (A:=par) (f:=41) rfl fun X args H K out h=> ?_
 obtain⟨u,hu,h⟩:=aa.1 (show(K9.sk.take args H).bind _=some out from h);obtain⟨h1,h2⟩:=DA.yd hu;obtain⟨⟨⟨⟩,⟨⟩⟩,⟨⟨⟩,s,⟨⟩⟩⟩:=u;exact⟨s,h1.symm,h2.symm,h⟩
theorem Bae:s7 par #[72,9]:=⟨72,9,rfl,by kernel_rfl,by kernel_rfl,by kernel_rfl,by kernel_rfl,by kernel_rfl⟩
theorem Cae:par.fns 38=some Tryz.f38:=by kernel_rfl
theorem w_:par.ext 38=none:=by kernel_rfl
theorem K3(k:Nat):M1 par (k+2) 38 #[72,9]:=fun H x p q v t H2 h2 h3 hw ha h4 h5 h6=>by
 have Kz:V.call par (k+1) (.fn 67 []) [.ptr x 0 0] H=some (.Sc [],V.Ra H x (.cells [[.ptr x 0 0,q]] 2 (some (74,2)))):=by
  have e:V.call par (k+1) (.fn 67 []) [.ptr x 0 0] H=V.b7 74 [.ptr x 0 0] H:=rfl;rw[e];have hx:H.bl[x]?=some (.cells [[p,q]] 2 (some (74,2))):=h2;simp only[V.b7,hx];rw[if_pos ⟨trivial,hw,by rcases h3 with rfl|rfl<;>simp[V.okp]⟩]
 have ht1:V.elem? par 72=some 5:=by kernel_rfl
 have e71:par.P.underlying 71=some (.pointer 74):=Tryz.underlying71;have NK:x<H.bl.length:=by obtain⟨h,_⟩:=List.getElem?_eq_some_iff.1 h2;exact h
 obtain⟨fd,qJ,hfo,hft⟩:∃fd,V.field? par 74 1=some fd/\fd.offset=1/\fd.type=72:=by
  have h:(V.field? par 74 1).map (fun fd=>(fd.offset,fd.type))=some (1,72):=by kernel_rfl
  cases h':V.field? par 74 1 with
  |none=>rw[h']at h;cases h
  |some fd=>rw[h']at h;simp at h;exact⟨fd,rfl,h.1,h.2⟩
 have ue:V.size par 72=some 1:=by kernel_rfl
 have iD:par.P.underlying 9=some .string:=Tryz.underlying9;have hb:(V.Ra H x (.cells [[.ptr x 0 0,q]] 2 (some (74,2)))).bl[x]?=some (.cells [[.ptr x 0 0,q]] 2 (some (74,2))):=by rw[Ec,if_pos rfl,if_pos NK]
 have Dp:par.loc 38=[]:=by kernel_rfl
 have Ys:par.AU 38=false:=by kernel_rfl
 generalize V.Ra H x (.cells [[.ptr x 0 0,q]] 2 (some (74,2)))=H1 at *
 unfold V.call;rw[w_,Cae];have hag:V.isAgg par 72=some false:=by kernel_rfl
 have fW:v.cells?=some [v]:=by cases v<;>first|rfl|simp[V.AV.iO]at h6
 have MK:∀(call:V.Callee)(Fa:List Nat)(n:Nat)(os:Array Oper)(s:V.S),V.region par call Fa n os false s=V.ops par call Fa n os os.toList s:=fun _ _ _ _ _=>rfl
 simp[Tryz.f38,Dp,Ys,V.code,MK,V.ops,V.Yc,V.op,V.operand,V.val,V.put,V.get,V.ah,V.ve,V.th,V.Uf,Kz,V.Ae,qJ,hfo,hft,ue,V.Ng,V.load,V.rowAt,hb,V.part,V.builtin,ha,V.store,h4,h5,hw,h6,fW,hag,V.Bf,iD,V.results,V.result]
theorem oac:OK 2 38 gZ:=fun k hk=>by
 obtain⟨j,rfl⟩:∃j,k=j+2:=⟨k-2,by omega⟩;refine I3 (A:=par) (k:=j+1) (f:=38) Bae (K3 j) (fun X args H K out h=> ?_) (fun cs vs H=>by unfold V.call;simp only[Nn]);obtain⟨u,hu,h⟩:=aa.1 (show(O9.sk.take args H).bind _=some out from h);obtain⟨h1,h2⟩:=DA.yd hu;obtain⟨⟨⟨⟩,t,⟨⟩⟩,⟨⟨⟩,s,⟨⟩⟩⟩:=u;have key:∀s t:ByteArray,(qp (t,s)).bind (fun r=>K (.Sc [.int .i64 r.1,.Rg]) ⟨[.um (.all 2),.dead,.yp r.2],0⟩)=some out->s.size+t.size<=70368744177664/\K (.Sc [.int .i64 t.size,.Rg]) ⟨[.um (.all 2),.dead,.yp (s++t)],0⟩=some out:=fun s t h'=>by
  simp only[qp,ask]at h';by_cases e1:s.size+t.size<=70368744177664<;>simp[e1]at h'
  exact⟨e1,h'⟩
 obtain⟨k1,k2⟩:=key s t h;exact⟨s,t,h1.symm,h2.symm,k1,k2⟩
theorem xy{α X:Type}{n:Nat}{l:List α}{g:List α->Option X}{out:X}(h:(clone n l).bind g=some out):(l.length * n<=70368744177664/\l.length<9223372036854775808)/\g l=some out:=by
 unfold clone at h;by_cases e1:l.length * n<=70368744177664<;>by_cases e2:l.length<9223372036854775808<;>simp[ask,e1,e2]at h
 exact⟨⟨e1,e2⟩,h⟩
theorem ual(k:Nat):Ss par (k+1) 47 .bool 1:=by
 have Dp:par.loc 47=[]:=by kernel_rfl
 have Ys:par.AU 47=false:=by kernel_rfl
 have Ep:par.ext 47=none:=by kernel_rfl
 have Ln:par.fns 47=some Tryz.f47:=by kernel_rfl
 obtain⟨e,z,he,hz,Yz,ue,N2⟩:∃e z,V.elem? par 33=some e/\V.zero par e=some z/\z.length=1/\V.size par e=some 1/\V.bytes par e=some 1:=⟨4,[.bool false],by kernel_rfl,by kernel_rfl,rfl,by kernel_rfl,by kernel_rfl⟩;have hu:par.P.underlying 33=some (.slice e):=by
  have:=V.kj he;exact this
 have MK:∀(call:V.Callee)(Fa:List Nat)(n:Nat)(os:Array Oper)(s:V.S),V.region par call Fa n os false s=V.ops par call Fa n os os.toList s:=fun _ _ _ _ _=>rfl
 have ep:∀H:V.AH,V.buildSlice par H 33 0 []=some (.Ud,H):=fun H=>by
  simp[V.buildSlice,he,hz,Yz,ue]
 have xJ:∀(H:V.AH)(x y:V.AV),V.rowsOf H x=some []->V.rowsOf H y=some []->(∀s,y≠ .str s)->V.append par H #[33,33] x y=some (x,H):=fun H x y h1 h2 h3=>by
  cases y<;>first|exact absurd rfl (h3 _)|simp[V.append,he,hz,N2,Yz,ue,hu,h1,h2]
 have q1:V.Ig par 33 .Xa .Xa=some true:=by simp[V.Ig,hu]
 have q2:V.Ig par 33 .Ud .Xa=some false:=by simp[V.Ig,hu]
 have q3:∀x r n,V.Ig par 33 (.sl x r n) .Xa=some false:=fun x r n=>by simp[V.Ig,hu]
 refine⟨fun H=> ?_,fun H=> ?_,fun H x rows ty hx=> ?_,fun H x n rows ty hx h0 hn Hg hb Ac=> ?_⟩
 ·unfold V.call;rw[Ep,Ln];simp[Tryz.f47,Dp,Ys,V.code,MK,V.ops,V.Yc,V.op,V.operand,V.val,V.put,V.get,V.ve,V.th,V.Uf,V.Ae,V.results,V.result,V.binop,q1]
 ·have ha:=xJ H .Ud .Ud rfl rfl (fun s e=>by cases e);unfold V.call;rw[Ep,Ln];simp[Tryz.f47,Dp,Ys,V.code,MK,V.ops,V.Yc,V.op,V.operand,V.val,V.ah,V.parts,V.put,V.get,V.ve,V.th,V.Uf,V.Ae,V.results,V.result,V.binop,V.builtin,ep,V.jn,q2,ha]
 ·have ha:=xJ H .Ud (.sl x 0 0) rfl (by simp[V.rowsOf,hx]) (fun s e=>by cases e);unfold V.call;rw[Ep,Ln];simp[Tryz.f47,Dp,Ys,V.code,MK,V.ops,V.Yc,V.op,V.operand,V.val,V.ah,V.parts,V.put,V.get,V.ve,V.th,V.Uf,V.Ae,V.results,V.result,V.binop,V.builtin,ep,V.jn,q3,ha]
 ·have ha:V.append par H #[33,33] .Ud (.sl x 0 n)=some (.sl H.bl.length 0 n,V.push H (.cells (rows.take n) 1 (some (e,1)))):=by
   have hl:(rows.take n).length=n:=by simp;omega
   have hr:V.rowsOf H (.sl x 0 n)=some (rows.take n):=by simp[V.rowsOf,hx,hn]
   simp only[V.append,oc,He,We,ga,he,hz,N2,Yz,ue,hu,hr,show V.rowsOf H .Ud=some []from rfl,Bb,Re,hl];rw[if_pos ⟨hb,Ac,by decide,trivial,Hg⟩,if_neg (by omega)]
  refine⟨some (e,1),?_⟩;unfold V.call;rw[Ep,Ln];simp[Tryz.f47,Dp,Ys,V.code,MK,V.ops,V.Yc,V.op,V.operand,V.val,V.ah,V.parts,V.put,V.get,V.ve,V.th,V.Uf,V.Ae,V.results,V.result,V.binop,V.builtin,ep,V.jn,q3,ha,width]
theorem QY:OK 1 47 BM:=fun k hk=>by
 obtain⟨j,rfl⟩:∃j,k=j+1:=⟨k-1,by omega⟩;refine zu (A:=par) (k:=j) (f:=47) (ual j) (fun cs vs H=>by unfold V.call;simp only[Nn]) fun X args H K out h=> ?_
 obtain⟨u,hu,h⟩:=aa.1 (show(E9.sk.take args H).bind _=some out from h);obtain⟨h1,h2⟩:=DA.yd hu;obtain⟨⟨⟨⟩,⟨⟩⟩,⟨l,⟨⟩⟩⟩:=u;obtain⟨k1,k2⟩:=xy (n:=1) (l:=(l:List Bool)) (g:=fun r=>K (.all 1) ⟨[.cells .bool l,.cells .bool r],1⟩) h;exact⟨l,h1.symm,h2.symm,k1,k2⟩
theorem tal(k:Nat):Ss par (k+1) 48 (.pair .bool .bool) 2:=by
 have Dp:par.loc 48=[]:=by kernel_rfl
 have Ys:par.AU 48=false:=by kernel_rfl
 have Ep:par.ext 48=none:=by kernel_rfl
 have Ln:par.fns 48=some Tryz.f48:=by kernel_rfl
 obtain⟨e,z,he,hz,Yz,ue,N2⟩:∃e z,V.elem? par 34=some e/\V.zero par e=some z/\z.length=2/\V.size par e=some 2/\V.bytes par e=some 2:=⟨43,[.bool false,.bool false],by kernel_rfl,by kernel_rfl,rfl,by kernel_rfl,by kernel_rfl⟩;have hu:par.P.underlying 34=some (.slice e):=by
  have:=V.kj he;exact this
 have MK:∀(call:V.Callee)(Fa:List Nat)(n:Nat)(os:Array Oper)(s:V.S),V.region par call Fa n os false s=V.ops par call Fa n os os.toList s:=fun _ _ _ _ _=>rfl
 have ep:∀H:V.AH,V.buildSlice par H 34 0 []=some (.Ud,H):=fun H=>by
  simp[V.buildSlice,he,hz,Yz,ue]
 have xJ:∀(H:V.AH)(x y:V.AV),V.rowsOf H x=some []->V.rowsOf H y=some []->(∀s,y≠ .str s)->V.append par H #[34,34] x y=some (x,H):=fun H x y h1 h2 h3=>by
  cases y<;>first|exact absurd rfl (h3 _)|simp[V.append,he,hz,N2,Yz,ue,hu,h1,h2]
 have q1:V.Ig par 34 .Xa .Xa=some true:=by simp[V.Ig,hu]
 have q2:V.Ig par 34 .Ud .Xa=some false:=by simp[V.Ig,hu]
 have q3:∀x r n,V.Ig par 34 (.sl x r n) .Xa=some false:=fun x r n=>by simp[V.Ig,hu]
 refine⟨fun H=> ?_,fun H=> ?_,fun H x rows ty hx=> ?_,fun H x n rows ty hx h0 hn Hg hb Ac=> ?_⟩
 ·unfold V.call;rw[Ep,Ln];simp[Tryz.f48,Dp,Ys,V.code,MK,V.ops,V.Yc,V.op,V.operand,V.val,V.put,V.get,V.ve,V.th,V.Uf,V.Ae,V.results,V.result,V.binop,q1]
 ·have ha:=xJ H .Ud .Ud rfl rfl (fun s e=>by cases e);unfold V.call;rw[Ep,Ln];simp[Tryz.f48,Dp,Ys,V.code,MK,V.ops,V.Yc,V.op,V.operand,V.val,V.ah,V.parts,V.put,V.get,V.ve,V.th,V.Uf,V.Ae,V.results,V.result,V.binop,V.builtin,ep,V.jn,q2,ha]
 ·have ha:=xJ H .Ud (.sl x 0 0) rfl (by simp[V.rowsOf,hx]) (fun s e=>by cases e);unfold V.call;rw[Ep,Ln];simp[Tryz.f48,Dp,Ys,V.code,MK,V.ops,V.Yc,V.op,V.operand,V.val,V.ah,V.parts,V.put,V.get,V.ve,V.th,V.Uf,V.Ae,V.results,V.result,V.binop,V.builtin,ep,V.jn,q3,ha]
 ·have ha:V.append par H #[34,34] .Ud (.sl x 0 n)=some (.sl H.bl.length 0 n,V.push H (.cells (rows.take n) 2 (some (e,1)))):=by
   have hl:(rows.take n).length=n:=by simp;omega
   have hr:V.rowsOf H (.sl x 0 n)=some (rows.take n):=by simp[V.rowsOf,hx,hn]
   simp only[V.append,oc,He,We,ga,he,hz,N2,Yz,ue,hu,hr,show V.rowsOf H .Ud=some []from rfl,Bb,Re,hl];rw[if_pos ⟨hb,Ac,by decide,trivial,Hg⟩,if_neg (by omega)]
  refine⟨some (e,1),?_⟩;unfold V.call;rw[Ep,Ln];simp[Tryz.f48,Dp,Ys,V.code,MK,V.ops,V.Yc,V.op,V.operand,V.val,V.ah,V.parts,V.put,V.get,V.ve,V.th,V.Uf,V.Ae,V.results,V.result,V.binop,V.builtin,ep,V.jn,q3,ha,width]
theorem PY:OK 1 48 AM:=fun k hk=>by
 obtain⟨j,rfl⟩:∃j,k=j+1:=⟨k-1,by omega⟩;refine zu (A:=par) (k:=j) (f:=48) (tal j) (fun cs vs H=>by unfold V.call;simp only[Nn]) fun X args H K out h=> ?_
 obtain⟨u,hu,h⟩:=aa.1 (show(D9.sk.take args H).bind _=some out from h);obtain⟨h1,h2⟩:=DA.yd hu;obtain⟨⟨⟨⟩,⟨⟩⟩,⟨l,⟨⟩⟩⟩:=u;obtain⟨k1,k2⟩:=xy (n:=2) (l:=(l:List (Bool×Bool))) (g:=fun r=>K (.all 1) ⟨[.cells (.pair .bool .bool) l,.cells (.pair .bool .bool) r],1⟩) h;exact⟨l,h1.symm,h2.symm,k1,k2⟩
theorem sal(k:Nat):Ss par (k+1) 49 ya 16:=by
 have Dp:par.loc 49=[]:=by kernel_rfl
 have Ys:par.AU 49=false:=by kernel_rfl
 have Ep:par.ext 49=none:=by kernel_rfl
 have Ln:par.fns 49=some Tryz.f49:=by kernel_rfl
 obtain⟨e,z,he,hz,Yz,ue,N2⟩:∃e z,V.elem? par 35=some e/\V.zero par e=some z/\z.length=2/\V.size par e=some 2/\V.bytes par e=some 16:=⟨59,[.int .i64 0,.int .i64 0],by kernel_rfl,by kernel_rfl,rfl,by kernel_rfl,by kernel_rfl⟩;have hu:par.P.underlying 35=some (.slice e):=by
  have:=V.kj he;exact this
 have MK:∀(call:V.Callee)(Fa:List Nat)(n:Nat)(os:Array Oper)(s:V.S),V.region par call Fa n os false s=V.ops par call Fa n os os.toList s:=fun _ _ _ _ _=>rfl
 have ep:∀H:V.AH,V.buildSlice par H 35 0 []=some (.Ud,H):=fun H=>by
  simp[V.buildSlice,he,hz,Yz,ue]
 have xJ:∀(H:V.AH)(x y:V.AV),V.rowsOf H x=some []->V.rowsOf H y=some []->(∀s,y≠ .str s)->V.append par H #[35,35] x y=some (x,H):=fun H x y h1 h2 h3=>by
  cases y<;>first|exact absurd rfl (h3 _)|simp[V.append,he,hz,N2,Yz,ue,hu,h1,h2]
 have q1:V.Ig par 35 .Xa .Xa=some true:=by simp[V.Ig,hu]
 have q2:V.Ig par 35 .Ud .Xa=some false:=by simp[V.Ig,hu]
 have q3:∀x r n,V.Ig par 35 (.sl x r n) .Xa=some false:=fun x r n=>by simp[V.Ig,hu]
 refine⟨fun H=> ?_,fun H=> ?_,fun H x rows ty hx=> ?_,fun H x n rows ty hx h0 hn Hg hb Ac=> ?_⟩
 ·unfold V.call;rw[Ep,Ln];simp[Tryz.f49,Dp,Ys,V.code,MK,V.ops,V.Yc,V.op,V.operand,V.val,V.put,V.get,V.ve,V.th,V.Uf,V.Ae,V.results,V.result,V.binop,q1]
 ·have ha:=xJ H .Ud .Ud rfl rfl (fun s e=>by cases e);unfold V.call;rw[Ep,Ln];simp[Tryz.f49,Dp,Ys,V.code,MK,V.ops,V.Yc,V.op,V.operand,V.val,V.ah,V.parts,V.put,V.get,V.ve,V.th,V.Uf,V.Ae,V.results,V.result,V.binop,V.builtin,ep,V.jn,q2,ha]
 ·have ha:=xJ H .Ud (.sl x 0 0) rfl (by simp[V.rowsOf,hx]) (fun s e=>by cases e);unfold V.call;rw[Ep,Ln];simp[Tryz.f49,Dp,Ys,V.code,MK,V.ops,V.Yc,V.op,V.operand,V.val,V.ah,V.parts,V.put,V.get,V.ve,V.th,V.Uf,V.Ae,V.results,V.result,V.binop,V.builtin,ep,V.jn,q3,ha]
 ·have ha:V.append par H #[35,35] .Ud (.sl x 0 n)=some (.sl H.bl.length 0 n,V.push H (.cells (rows.take n) 2 (some (e,1)))):=by
   have hl:(rows.take n).length=n:=by simp;omega
   have hr:V.rowsOf H (.sl x 0 n)=some (rows.take n):=by simp[V.rowsOf,hx,hn]
   simp only[V.append,oc,He,We,ga,he,hz,N2,Yz,ue,hu,hr,show V.rowsOf H .Ud=some []from rfl,Bb,Re,hl];rw[if_pos ⟨hb,Ac,by decide,trivial,Hg⟩,if_neg (by omega)]
  refine⟨some (e,1),?_⟩;unfold V.call;rw[Ep,Ln];simp[Tryz.f49,Dp,Ys,V.code,MK,V.ops,V.Yc,V.op,V.operand,V.val,V.ah,V.parts,V.put,V.get,V.ve,V.th,V.Uf,V.Ae,V.results,V.result,V.binop,V.builtin,ep,V.jn,q3,ha,width]
theorem OY:OK 1 49 zM:=fun k hk=>by
 obtain⟨j,rfl⟩:∃j,k=j+1:=⟨k-1,by omega⟩;refine zu (A:=par) (k:=j) (f:=49) (sal j) (fun cs vs H=>by unfold V.call;simp only[Nn]) fun X args H K out h=> ?_
 obtain⟨u,hu,h⟩:=aa.1 (show(C9.sk.take args H).bind _=some out from h);obtain⟨h1,h2⟩:=DA.yd hu;obtain⟨⟨⟨⟩,⟨⟩⟩,⟨l,⟨⟩⟩⟩:=u;obtain⟨k1,k2⟩:=xy (n:=16) (l:=(l:List Aa)) (g:=fun r=>K (.all 1) ⟨[.cells ya l,.cells ya r],1⟩) h;exact⟨l,h1.symm,h2.symm,k1,k2⟩
theorem eac:OK 1 46 RY:=fun k hk=>by
 obtain⟨j,rfl⟩:∃j,k=j+1:=⟨k-1,by omega⟩;refine rL (A:=par) (k:=j) (f:=46) (Kl:=V.Vp) V.tE rfl fun X args H K out h=> ?_
 obtain⟨u,hu,h⟩:=aa.1 (show(F9.sk.take args H).bind _=some out from h);obtain⟨h1,h2⟩:=DA.yd hu;obtain⟨⟨⟨⟩,⟨⟩⟩,⟨l,⟨⟩⟩⟩:=u;have key:∀l:List Int,(vP l).bind (fun r=>K (.Sc []) ⟨[.cells cI r],0⟩)=some out->l.length<4611686018427387904/\K (.Sc []) ⟨[.cells cI (Vp l)],0⟩=some out:=fun l h'=>by
  simp only[vP,ask]at h';by_cases e1:l.length<4611686018427387904<;>simp[e1]at h'
  exact⟨e1,h'⟩
 obtain⟨k1,k2⟩:=key l h;exact⟨l,h1.symm,h2.symm,k1,k2⟩
theorem MY:OK 1 51 wM:=fun k hk=>by
 obtain⟨j,rfl⟩:∃j,k=j+1:=⟨k-1,by omega⟩;refine oL (A:=par) (k:=j) (f:=51) (Kl:=V.Mh) V.vE rfl fun X args H K out h=> ?_
 obtain⟨u,hu,h⟩:=aa.1 (show(y9.sk.take args H).bind _=some out from h);obtain⟨h1,h2⟩:=DA.yd hu;obtain⟨⟨⟨⟩,⟨⟨⟩,⟨⟩⟩⟩,⟨l,⟨⟩⟩⟩:=u;have key:∀l:List Aa,(kF l).bind (fun r=>K (.Sc []) ⟨[.cells ya r],0⟩)=some out->l.length<4611686018427387904/\K (.Sc []) ⟨[.cells ya (Mh l)],0⟩=some out:=fun l h'=>by
  simp only[kF,ask]at h';by_cases e1:l.length<4611686018427387904<;>simp[e1]at h'
  exact⟨e1,h'⟩
 obtain⟨k1,k2⟩:=key l h;exact⟨l,h1.symm,h2.symm,k1,k2⟩
theorem fac:OK 1 45 SY:=fun k hk=>by
 obtain⟨j,rfl⟩:∃j,k=j+1:=⟨k-1,by omega⟩;refine L0 (A:=par) (k:=j) (f:=45) rfl fun X args H K out h=> ?_
 obtain⟨u,hu,h⟩:=aa.1 (show(G9.sk.take args H).bind _=some out from h);obtain⟨h1,h2⟩:=DA.yd hu;obtain⟨⟨⟨⟩,x,y,⟨⟩⟩,⟨l,⟨⟩⟩⟩:=u;have key:∀(x y:Int)(l:List Int),(wP (x,y,l)).bind (fun r=>K (.all 1) ⟨[.dead,.cells cI r],0⟩)=some out->(0<=x/\x<=y/\y<=l.length)/\K (.all 1) ⟨[.dead,.cells cI (l.take x.toNat++l.drop y.toNat)],0⟩=some out:=fun x y l h'=>by
  simp only[wP,ask]at h';by_cases e1:0<=x<;>by_cases e2:x<=y<;>by_cases e3:y<=l.length<;>simp[e1,e2,e3]at h'
  exact⟨⟨e1,e2,e3⟩,h'⟩
 obtain⟨k1,k2⟩:=key x y l h;exact⟨l,x,y,h1.symm,h2.symm,k1,k2⟩
end Go.U
section
set_option maxRecDepth 100000
namespace Go.U
open Go Go.Proofs
noncomputable section
variable {C:V.Callee}
def u9:FS (Int) (Bool)where
 sk:=⟨(.cons .i .nil),[],0⟩
 a:=fun u=>u.1.1
 o:=fun Z a r K=>kv K (.bool) [] 0 r ()
def aK{X:Type}(a:Int)(K:Bool->Option X):Option X:=
 cond (decide ((1:Int)<=a))
 (K (decide (a<=(3:Int))))
 (K false)
def Kt:=fun a=>aK a some
def Xab:Spec:=u9.sp Kt
noncomputable def dah:Env:=eE [] (yb []) qN
theorem Yab:OK (1) 58 (u9.sp Kt):=
 fO (d:=0) (env:=dah) (Da cn) (fn:=Tryz.f58) (mc:=@aK) (by intros;simp only[Kt,aK,nn])
def s9:FS (Int) (Int)where
 sk:=⟨(.cons .i .nil),[],0⟩
 a:=fun u=>u.1.1
 o:=fun Z a r K=>kv K .i [] 0 r ()
def ZJ{X:Type}(a:Int)(K:Int->Option X):Option X:=
 cond (decide (a=(1:Int)))
 (K (-128))
 (cond (decide (a=(2:Int)))
 (K (-32768))
 (K (-2147483648)))
def kp:=fun a=>ZJ a some
def sM:Spec:=s9.sp kp
noncomputable def cah:Env:=eE [] (yb []) qN
theorem tM:OK (1) 59 (s9.sp kp):=
 fO (d:=0) (env:=cah) (Da cn) (fn:=Tryz.f59) (mc:=@ZJ) (by intros;simp only[kp,ZJ,nn])
def q9:FS (Int) (Int)where
 sk:=⟨(.cons .i .nil),[],0⟩
 a:=fun u=>u.1.1
 o:=fun Z a r K=>kv K .i [] 0 r ()
def YJ{X:Type}(a:Int)(K:Int->Option X):Option X:=
 (kp a).bind fun r1=>
 K (Ea ((Ea ((0:Int)-r1))-(1:Int)))
def zq:=fun a=>YJ a some
def yY:Spec:=q9.sp zq
noncomputable def bah:Env:=eE [] (yb [(59,sM)]) qN
theorem zY:OK (2) 60 (q9.sp zq):=
 fO (d:=1) (env:=bah) (Da (cc tM cn)) (fn:=Tryz.f60) (mc:=@YJ) (by intros;simp only[zq,YJ,nn])
def Z9:FS (Ga) (Bool)where
 sk:=⟨(.cons (.agg jb) .nil),[],0⟩
 a:=fun u=>(q8 u.1.1)
 o:=fun Z a r K=>kv K (.bool) [] 0 r ()
def Gq:LD ((List Aa)×Int×Ga) (Int) ((Unit) ⊕ (Unit))where
 sk:=⟨[(1,.loc 0 0),(52,.v (.lit ya)),(53,.i),(54,.i)],[jb],[],0,0⟩
 p:=fun u=>(u.1.1,u.1.2.1,u.2.1.1.1,(q7 u.2.1.1.2))
 t:=fun u=>u.1.2.2.1
 n:=fun p t=>((p.1,p.2.1,t,()),((r7 p.2.2 (p.t9,())),()),())
 st:=fun Y p t ki ke=>cond (decide (t<p.2.1))
  (ask (V.ja t (da p.1)) (cond (decide ((gx p.1 (fa t) Fb).2<(0:Int)))
  (ke (.inl ()))
  (cond (decide ((62:Int)<(gx p.1 (fa t) Fb).2))
  (ke (.inl ()))
  (cond (!(decide ((Int.tmod (gx p.1 (fa t) Fb).2 2)=(0:Int))))
  (ke (.inl ()))
  (ki ((Ea (t+(1:Int)))))))))
  (ke (.inr (())))
 o:=fun Z p e K=>Sum.elim (fun e=>so K (.ret) ⟨[(2,.v .bool)],[],[],0,0⟩ ((false,()),(),())) (fun e=>so K (.exit 0) ⟨[(1,.loc 0 0)],[jb],[],0,0⟩ ((),((r7 p.2.2 (p.t9,())),()),())) e
 Dd:=⟨[1,52,53,54],[],[],[]⟩
 pe:=[(.ret,⟨[2],[],[],[]⟩),(.exit 0,⟨[1],[],[],[]⟩)]
def fm:LD ((List Cb)×Int×Ga) (Int) ((Unit) ⊕ (Unit))where
 sk:=⟨[(1,.loc 0 0),(74,.v (.lit Sd)),(75,.i),(76,.i)],[jb],[],0,0⟩
 p:=fun u=>(u.1.1,u.1.2.1,u.2.1.1.1,(q7 u.2.1.1.2))
 t:=fun u=>u.1.2.2.1
 n:=fun p t=>((p.1,p.2.1,t,()),((r7 p.2.2 (p.t9,())),()),())
 st:=fun Y p t ki ke=>cond (decide (t<p.2.1))
  (ask (V.ja t (da p.1)) ((Kt (gx p.1 (fa t) fb).2.1).bind fun r1=>
  cond (!r1)
  (ke (.inl ()))
  (cond (decide ((gx p.1 (fa t) fb).2.2.2<(gx p.1 (fa t) fb).2.2.1))
  (ke (.inl ()))
  ((kp (gx p.1 (fa t) fb).2.1).bind fun r2=>
  cond (decide ((gx p.1 (fa t) fb).2.2.1<r2))
  (ke (.inl ()))
  ((zq (gx p.1 (fa t) fb).2.1).bind fun r3=>
  cond (decide (r3<(gx p.1 (fa t) fb).2.2.2))
  (ke (.inl ()))
  (ki ((Ea (t+(1:Int))))))))))
  (ke (.inr (())))
 o:=fun Z p e K=>Sum.elim (fun e=>so K (.ret) ⟨[(2,.v .bool)],[],[],0,0⟩ ((false,()),(),())) (fun e=>so K (.exit 2) ⟨[(1,.loc 0 0)],[jb],[],0,0⟩ ((),((r7 p.2.2 (p.t9,())),()),())) e
 Dd:=⟨[1,74,75,76],[],[],[]⟩
 pe:=[(.ret,⟨[2],[],[],[]⟩),(.exit 2,⟨[1],[],[],[]⟩)]
def dm:LD ((List Zb)×Int×Ga) (Int) ((Unit) ⊕ (Unit))where
 sk:=⟨[(1,.loc 0 0),(109,.v (.lit Sf)),(110,.i),(111,.i)],[jb],[],0,0⟩
 p:=fun u=>(u.1.1,u.1.2.1,u.2.1.1.1,(q7 u.2.1.1.2))
 t:=fun u=>u.1.2.2.1
 n:=fun p t=>((p.1,p.2.1,t,()),((r7 p.2.2 (p.t9,())),()),())
 st:=fun Y p t ki ke=>cond (decide (t<p.2.1))
  (ask (V.ja t (da p.1)) ((Kt (gx p.1 (fa t) Bc).2.1).bind fun r1=>
  cond (!r1)
  (ke (.inl ()))
  ((kp (gx p.1 (fa t) Bc).2.1).bind fun r2=>
  cond (decide ((gx p.1 (fa t) Bc).2.2<r2))
  (ke (.inl ()))
  ((zq (gx p.1 (fa t) Bc).2.1).bind fun r3=>
  cond (decide (r3<(gx p.1 (fa t) Bc).2.2))
  (ke (.inl ()))
  (ki ((Ea (t+(1:Int)))))))))
  (ke (.inr (())))
 o:=fun Z p e K=>Sum.elim (fun e=>so K (.ret) ⟨[(2,.v .bool)],[],[],0,0⟩ ((false,()),(),())) (fun e=>so K (.exit 4) ⟨[(1,.loc 0 0)],[jb],[],0,0⟩ ((),((r7 p.2.2 (p.t9,())),()),())) e
 Dd:=⟨[1,109,110,111],[],[],[]⟩
 pe:=[(.ret,⟨[2],[],[],[]⟩),(.exit 4,⟨[1],[],[],[]⟩)]
def cm:LD ((List Cb)×Int) (Int) ((Unit) ⊕ (Unit))where
 sk:=⟨[(137,.v (.lit Sd)),(138,.i),(139,.i)],[],[],0,0⟩
 p:=fun u=>(u.1.1,u.1.2.1)
 t:=fun u=>u.1.2.2.1
 n:=fun p t=>((p.1,p.2,t,()),(),())
 st:=fun Y p t ki ke=>cond (decide (t<p.2))
  (ask (V.ja t (da p.1)) ((Kt (gx p.1 (fa t) fb).2.1).bind fun r1=>
  cond (!r1)
  (ke (.inl ()))
  ((kp (gx p.1 (fa t) fb).2.1).bind fun r2=>
  cond (decide ((gx p.1 (fa t) fb).2.2.2<r2))
  (ke (.inl ()))
  ((zq (gx p.1 (fa t) fb).2.1).bind fun r3=>
  cond (decide (r3<(gx p.1 (fa t) fb).2.2.2))
  (ke (.inl ()))
  (cond (decide ((gx p.1 (fa t) fb).2.2.1<(1:Int)))
  (ke (.inl ()))
  (cond (decide ((256:Int)<(gx p.1 (fa t) fb).2.2.1))
  (ke (.inl ()))
  (ki ((Ea (t+(1:Int)))))))))))
  (ke (.inr (())))
 o:=fun Z p e K=>Sum.elim (fun e=>so K (.ret) ⟨[(2,.v .bool)],[],[],0,0⟩ ((false,()),(),())) (fun e=>so K (.exit 6) ⟨[],[],[],0,0⟩ ((),(),())) e
 Dd:=⟨[137,138,139],[],[],[]⟩
 pe:=[(.ret,⟨[2],[],[],[]⟩),(.exit 6,⟨[],[],[],[]⟩)]
def NP{X:Type}(a:Ga)(K:Bool->Option X):Option X:=
 cond (decide ((32:Int)<(nt (da a.2.2.2.2.1))))
 (K false)
 (cond (decide ((64:Int)<(nt (da a.2.2.2.2.2.1))))
 (K false)
 (cond (decide ((16:Int)<(nt (da a.2.2.2.2.2.2.1))))
 (K false)
 (cond (decide (a.2.2.2.1<(0:Int)))
 (K false)
 (cond (decide ((2147483647:Int)<a.2.2.2.1))
 (K false)
 (cond (decide ((nt (da a.2.2.2.2.2.2.2))<(1:Int)))
 (K false)
 (ask (V.ja 0 (da a.2.2.2.2.2.2.2)) (cond (!((decide ((gx a.2.2.2.2.2.2.2 0 Fb).1=(0:Int)))&&((decide ((gx a.2.2.2.2.2.2.2 0 Fb).2=(0:Int)))&&true)))
 (K false)
 ((Ma (Gq.m (a.2.2.2.2.2.2.2,(nt (da a.2.2.2.2.2.2.2)),a)) 0).bind fun e1=>
 Sum.elim (fun e2=>K false)
 (fun e3=>(Ma (fm.m (a.2.2.2.2.1,(nt (da a.2.2.2.2.1)),a)) 0).bind fun e4=>
 Sum.elim (fun e5=>K false)
 (fun e6=>(Ma (dm.m (a.2.2.2.2.2.1,(nt (da a.2.2.2.2.2.1)),a)) 0).bind fun e7=>
 Sum.elim (fun e8=>K false)
 (fun e9=>(Ma (cm.m (a.2.2.2.2.2.2.1,(nt (da a.2.2.2.2.2.2.1)))) 0).bind fun KD=>
 Sum.elim (fun SK=>K false)
 (fun oQ=>K true) KD) e7) e4) e1))))))))
def sF:=fun a=>NP a some
def Qac:Spec:=Z9.sp sF
noncomputable def fK:Env:=eE [] (yb [(58,Xab),(59,sM),(60,yY)]) (qL 4 Gq.q (qL 10 fm.q (qL 16 dm.q (qL 22 cm.q qN))))
theorem aT:LS C fK true [1,4,6,8,10] 174 (.loop (pc [1,1,0,1,0,0] Tryz.f27)):=fun hc=>
 lO hc Gq (by intros;simp only[Gq,LD.m,nn])
theorem OM:LS C fK true [1,4,6,8,10] 174 (.loop (pc [1,1,1,0,1,0,0] Tryz.f27)):=fun hc=>
 lO hc fm (by intros;simp only[fm,LD.m,nn])
theorem NM:LS C fK true [1,4,6,8,10] 174 (.loop (pc [1,1,1,1,0,1,0,0] Tryz.f27)):=fun hc=>
 lO hc dm (by intros;simp only[dm,LD.m,nn])
theorem MM:LS C fK true [1,4,6,8,10] 174 (.loop (pc [1,1,1,1,1,0,1,0,0] Tryz.f27)):=fun hc=>
 lO hc cm (by intros;simp only[cm,LD.m,nn])
theorem Rac:OK (3) 27 (Z9.sp sF):=
 fO (d:=2) (env:=fK) (Da (cc Yab (cc tM (cc zY cn)))) (fn:=Tryz.f27) (mc:=@NP) (by intros;simp only[sF,NP,nn]) (Fa:=[1,4,6,8,10]) (hl:=fun hc=>(nc (by kernel_rfl) (Ua (aT hc) (Ua (OM hc) (Ua (NM hc) (Ua (MM hc) Kb))))))
def Y9:FS (Ga) ((List Int)×Bool)where
 sk:=⟨(.cons (.agg jb) .nil),[],0⟩
 a:=fun u=>(q8 u.1.1)
 o:=fun Z a r K=>kv K (.Sc (cL [(.lit .i),.bool])) [] 0 (r.1,r.2,()) ()
def tu:LD ((List Wa)×Int×Ga) (Int×Int) (Int)where
 sk:=⟨[(1,.loc 0 0),(4,.i),(13,.v (.lit Qd)),(14,.i),(15,.i)],[jb],[],0,0⟩
 p:=fun u=>(u.1.2.1,u.1.2.2.1,u.2.1.1.1,(q7 u.2.1.1.2))
 t:=fun u=>(u.1.1,u.1.t3.1)
 n:=fun p t=>((t.1,p.1,p.2.1,t.2,()),((r7 p.2.2 (p.t9,())),()),())
 st:=fun Y p t ki ke=>cond (decide (t.2<p.2.1))
  (ask (V.ja t.2 (da p.1)) (cond (decide ((1:Int)<=(gx p.1 (fa t.2) Ta).1))
  (cond (decide ((gx p.1 (fa t.2) Ta).1<=(12:Int)))
  (ki ((Ea (t.1+(1:Int))),(Ea (t.2+(1:Int)))))
  (ki (t.1,(Ea (t.2+(1:Int))))))
  (ki (t.1,(Ea (t.2+(1:Int)))))))
  (ke (t.1))
 o:=fun Z p e K=>so K (.exit 0) ⟨[(1,.loc 0 0),(4,.i)],[jb],[],0,0⟩ ((e,()),((r7 p.2.2 (p.t9,())),()),())
 Dd:=⟨[1,4,13,14,15],[],[],[]⟩
 pe:=[(.exit 0,⟨[1,4],[],[],[]⟩)]
def Io:LD (Int×Int×Ga) (Int×(List Int)) ((List Int))where
 sk:=⟨[(1,.loc 0 0),(4,.i),(7,.v (.all 0)),(41,.i),(42,.i)],[jb],[.cells .i],0,0⟩
 p:=fun u=>(u.1.1,u.1.2.2.1,u.2.1.1.1,(q7 u.2.1.1.2))
 t:=fun u=>(u.1.t3.1,u.2.2.1)
 n:=fun p t=>((p.1,(),p.2.1,t.1,()),((r7 p.2.2 (p.t9,())),()),t.2,())
 st:=fun Y p t ki ke=>cond (decide (t.1<p.2.1))
  (ask (V.ja t.1 (da t.2)) (ki ((Ea (t.1+(1:Int))),(Qa t.2 (fa t.1) (-1)))))
  (ke (t.2))
 o:=fun Z p e K=>so K (.exit 2) ⟨[(1,.loc 0 0),(4,.i),(7,.v (.all 0))],[jb],[.cells .i],0,0⟩ ((p.1,(),()),((r7 p.2.2 (p.t9,())),()),e,())
 Dd:=⟨[1,4,7,41,42],[],[],[]⟩
 pe:=[(.exit 2,⟨[1,4,7],[],[],[]⟩)]
def Ho:LD (Int×(List Wa)×Int×Ga) (Int×(List Int)) ((Unit) ⊕ ((List Int)))where
 sk:=⟨[(1,.loc 0 0),(4,.i),(7,.v (.all 0)),(50,.v (.lit Qd)),(51,.i),(52,.i)],[jb],[.cells .i],0,0⟩
 p:=fun u=>(u.1.1,u.1.2.2.1,u.1.t3.1,u.2.1.1.1,(q7 u.2.1.1.2))
 t:=fun u=>(u.1.t4.1,u.2.2.1)
 n:=fun p t=>((p.1,(),p.2.1,p.2.2.1,t.1,()),((r7 p.t3 (p.t10,())),()),t.2,())
 st:=fun Y p t ki ke=>cond (decide (t.1<p.2.2.1))
  (ask (V.ja t.1 (da p.2.1)) (cond (decide ((gx p.2.1 (fa t.1) Ta).1<(1:Int)))
  (ki ((Ea (t.1+(1:Int))),t.2))
  (cond (decide ((12:Int)<(gx p.2.1 (fa t.1) Ta).1))
  (ki ((Ea (t.1+(1:Int))),t.2))
  (cond (decide ((Ea ((gx p.2.1 (fa t.1) Ta).2.1-(nt (da p.2.2.2.2.2.2.2.2.1))))<(0:Int)))
  (ke (.inl ()))
  (cond (decide (p.1<=(Ea ((gx p.2.1 (fa t.1) Ta).2.1-(nt (da p.2.2.2.2.2.2.2.2.1))))))
  (ke (.inl ()))
  (ask (V.ja (Ea ((gx p.2.1 (fa t.1) Ta).2.1-(nt (da p.2.2.2.2.2.2.2.2.1)))) (da t.2)) (cond (decide ((0:Int)<=(gx t.2 (fa (Ea ((gx p.2.1 (fa t.1) Ta).2.1-(nt (da p.2.2.2.2.2.2.2.2.1))))) (0:Int))))
  (ke (.inl ()))
  (ask (V.ja (Ea ((gx p.2.1 (fa t.1) Ta).2.1-(nt (da p.2.2.2.2.2.2.2.2.1)))) (da t.2)) (ki ((Ea (t.1+(1:Int))),(Qa t.2 (fa (Ea ((gx p.2.1 (fa t.1) Ta).2.1-(nt (da p.2.2.2.2.2.2.2.2.1))))) t.1)))))))))))
  (ke (.inr (t.2)))
 o:=fun Z p e K=>Sum.elim (fun e=>so K (.ret) ⟨[(2,.v .Xa),(3,.v .bool)],[],[],0,0⟩ (((),false,()),(),())) (fun e=>so K (.exit 4) ⟨[(7,.v (.all 0))],[],[.cells .i],0,0⟩ (((),()),(),e,())) e
 Dd:=⟨[1,4,7,50,51,52],[],[],[]⟩
 pe:=[(.ret,⟨[2,3],[],[],[]⟩),(.exit 4,⟨[7],[],[],[]⟩)]
def MP{X:Type}(a:Ga)(K:(List Int)×Bool->Option X):Option X:=
 (Ma (tu.m (a.1,(nt (da a.1)),a)) (0,0)).bind fun e1=>
 cond (!(decide (a.2.2.1=(Ea ((nt (da a.2.2.2.2.2.1))+e1)))))
 (K ([],false))
 (ask (decide (0<=e1)&&decide (e1<=e1)&&decide (8 * e1<=70368744177664)&&decide (e1<9223372036854775808)) ((Ma (Io.m (e1,(nt (da (Ca (fa e1) (0:Int)))),a)) (0,(Ca (fa e1) (0:Int)))).bind fun e2=>
 (Ma (Ho.m (e1,a.1,(nt (da a.1)),a)) (0,e2)).bind fun e3=>
 Sum.elim (fun e4=>K ([],false))
 (fun e5=>K (e5,true)) e3))
def rF:=fun a=>MP a some
def Nac:Spec:=Y9.sp rF
noncomputable def LP:Env:=eE [] (yb []) (qL 3 tu.q (qL 12 Io.q (qL 17 Ho.q qN)))
theorem WS:LS C LP true [1,6,10] 91 (.loop (pc [1,1,0,1,0,0] Tryz.f28)):=fun hc=>
 lO hc tu (by intros;simp only[tu,LD.m,nn])
theorem KM:LS C LP true [1,6,10] 91 (.loop (pc [1,1,1,1,1,0,1,0,0] Tryz.f28)):=fun hc=>
 lO hc Io (by intros;simp only[Io,LD.m,nn])
theorem JM:LS C LP true [1,6,10] 91 (.loop (pc [1,1,1,1,1,1,0,1,0,0] Tryz.f28)):=fun hc=>
 lO hc Ho (by intros;simp only[Ho,LD.m,nn])
theorem Oac:OK (1) 28 (Y9.sp rF):=
 fO (d:=0) (env:=LP) (Da cn) (fn:=Tryz.f28) (mc:=@MP) (by intros;simp only[rF,MP,nn]) (Fa:=[1,6,10]) (sh:=(.Sc [(.lit (.int .i64)),.any])) (fz:=true) (hl:=fun hc=>(nc (by kernel_rfl) (Ua (WS hc) (Ua (KM hc) (Ua (JM hc) Kb)))))
def X9:FS (Wa) (Bool)where
 sk:=⟨(.cons (.agg Mb) .nil),[],0⟩
 a:=fun u=>(q8 u.1.1)
 o:=fun Z a r K=>kv K (.bool) [] 0 r ()
def iy:PD (Wa) (Bool)where
 sk:=⟨[(1,.loc 0 0)],[Mb],[],0,0⟩
 p:=fun u=>(q8 u.2.1.1)
 st:=fun Y p ke=>cond (decide (p.1=(1:Int)))
  (ke (true))
  (cond (decide (p.1=(16:Int)))
  (ke (true))
  (ke ((decide ((17:Int)<=p.1)))))
 o:=fun Z p e K=>so K (.normal) ⟨[(1,.loc 0 0),(3,.v .bool)],[Mb],[],0,0⟩ ((e,()),((r7 p (p.t7,())),()),())
 Dd:=⟨[1],[],[],[]⟩
 pe:=[(.normal,⟨[1,3],[],[],[]⟩)]
def Fq:PD (Bool×Wa) (Bool)where
 sk:=⟨[(1,.loc 0 0),(3,.v .bool)],[Mb],[],0,0⟩
 p:=fun u=>(u.1.1,u.2.1.1.1,(q7 u.2.1.1.2))
 st:=fun Y p ke=>cond p.1
  (ke (true))
  (cond (decide (p.2.1=(2:Int)))
  (ke (true))
  (cond (decide (p.2.1=(3:Int)))
  (ke (true))
  (cond (decide (p.2.1=(12:Int)))
  (ke (true))
  (ke ((decide (p.2.1=(13:Int))))))))
 o:=fun Z p e K=>so K (.normal) ⟨[(1,.loc 0 0),(3,.v .bool),(4,.v .bool)],[Mb],[],0,0⟩ ((p.1,e,()),((r7 p.2 (p.t8,())),()),())
 Dd:=⟨[1,3],[],[],[]⟩
 pe:=[(.normal,⟨[1,3,4],[],[],[]⟩)]
def gy:PD (Bool×Bool×Wa) (Bool)where
 sk:=⟨[(1,.loc 0 0),(3,.v .bool),(4,.v .bool)],[Mb],[],0,0⟩
 p:=fun u=>(u.1.1,u.1.2.1,u.2.1.1.1,(q7 u.2.1.1.2))
 st:=fun Y p ke=>cond (decide (p.2.2.1=(15:Int)))
  (ke (true))
  (cond (decide (p.2.2.1=(16:Int)))
  (ke (true))
  (ke ((decide ((17:Int)<=p.2.2.1)))))
 o:=fun Z p e K=>so K (.normal) ⟨[(1,.loc 0 0),(3,.v .bool),(4,.v .bool),(5,.v .bool)],[Mb],[],0,0⟩ ((p.1,p.2.1,e,()),((r7 p.2.2 (p.t9,())),()),())
 Dd:=⟨[1,3,4],[],[],[]⟩
 pe:=[(.normal,⟨[1,3,4,5],[],[],[]⟩)]
def ey:PD (Bool×Bool×Bool×Wa) (Bool)where
 sk:=⟨[(1,.loc 0 0),(3,.v .bool),(4,.v .bool),(5,.v .bool)],[Mb],[],0,0⟩
 p:=fun u=>(r3 u.1 (q8 u.2.1.1))
 st:=fun Y p ke=>cond (!(decide (p.2.2.2.1=(1:Int))))
  (ke ((!(decide (p.2.2.2.1=(15:Int))))))
  (ke (false))
 o:=fun Z p e K=>so K (.normal) ⟨[(1,.loc 0 0),(3,.v .bool),(4,.v .bool),(5,.v .bool),(6,.v .bool)],[Mb],[],0,0⟩ ((r3 p (e,())),((r7 p.t3 (p.t10,())),()),())
 Dd:=⟨[1,3,4,5],[],[],[]⟩
 pe:=[(.normal,⟨[1,3,4,5,6],[],[],[]⟩)]
def Dq:PD (Bool×Bool×Bool×Bool×Wa) (Bool)where
 sk:=⟨[(1,.loc 0 0),(3,.v .bool),(4,.v .bool),(5,.v .bool),(6,.v .bool)],[Mb],[],0,0⟩
 p:=fun u=>(r4 u.1 (q8 u.2.1.1))
 st:=fun Y p ke=>cond (!p.1)
  (cond (!p.2.1)
  (cond (!p.2.2.1)
  (cond (!p.2.2.2.1)
  (ke (true))
  (ke ((decide (p.2.2.2.2.2.2.2.2.1=(0:Int))))))
  (cond (decide (p.2.2.2.2.2.1=(0:Int)))
  (cond (!p.2.2.2.1)
  (ke (true))
  (ke ((decide (p.2.2.2.2.2.2.2.2.1=(0:Int))))))
  (ke (false))))
  (cond (decide (p.2.2.2.2.2.2.2.1=(0:Int)))
  (cond (!p.2.2.1)
  (cond (!p.2.2.2.1)
  (ke (true))
  (ke ((decide (p.2.2.2.2.2.2.2.2.1=(0:Int))))))
  (cond (decide (p.2.2.2.2.2.1=(0:Int)))
  (cond (!p.2.2.2.1)
  (ke (true))
  (ke ((decide (p.2.2.2.2.2.2.2.2.1=(0:Int))))))
  (ke (false))))
  (ke (false))))
  (cond (decide (p.2.2.2.2.2.2.1=(0:Int)))
  (cond (!p.2.1)
  (cond (!p.2.2.1)
  (cond (!p.2.2.2.1)
  (ke (true))
  (ke ((decide (p.2.2.2.2.2.2.2.2.1=(0:Int))))))
  (cond (decide (p.2.2.2.2.2.1=(0:Int)))
  (cond (!p.2.2.2.1)
  (ke (true))
  (ke ((decide (p.2.2.2.2.2.2.2.2.1=(0:Int))))))
  (ke (false))))
  (cond (decide (p.2.2.2.2.2.2.2.1=(0:Int)))
  (cond (!p.2.2.1)
  (cond (!p.2.2.2.1)
  (ke (true))
  (ke ((decide (p.2.2.2.2.2.2.2.2.1=(0:Int))))))
  (cond (decide (p.2.2.2.2.2.1=(0:Int)))
  (cond (!p.2.2.2.1)
  (ke (true))
  (ke ((decide (p.2.2.2.2.2.2.2.2.1=(0:Int))))))
  (ke (false))))
  (ke (false))))
  (ke (false)))
 o:=fun Z p e K=>so K (.normal) ⟨[(2,.v .bool)],[],[],0,0⟩ ((e,()),(),())
 Dd:=⟨[1,3,4,5,6],[],[],[]⟩
 pe:=[(.normal,⟨[2],[],[],[]⟩)]
def KP{X:Type}(a:Wa)(K:Bool->Option X):Option X:=
 (iy.m a).bind fun e1=>
 (Fq.m (e1,a)).bind fun e2=>
 (gy.m (e1,e2,a)).bind fun e3=>
 (ey.m (e1,e2,e3,a)).bind fun e4=>
 (Dq.m (e1,e2,e3,e4,a)).bind fun e5=>
 K e5
def VB:=fun a=>KP a some
def Kac:Spec:=X9.sp VB
noncomputable def uh:Env:=eE [2000001,2000002,2000003,2000004,2000005] (yb []) (qL 2000001 iy.q (qL 2000002 Fq.q (qL 2000003 gy.q (qL 2000004 ey.q (qL 2000005 Dq.q qN)))))
theorem SS:LS C uh true [1] 96 (pc [1,0] Tryz.f29):=fun hc=>
 pO (Jd:=⟨Vf uh.join 2000001,uh.call,uh.loop⟩) hc rfl iy (by intros;simp only[iy,PD.m,nn])
theorem QS:LS C uh true [1] 96 (pc [1,1,0] Tryz.f29):=fun hc=>
 pO (Jd:=⟨Vf uh.join 2000002,uh.call,uh.loop⟩) hc rfl Fq (by intros;simp only[Fq,PD.m,nn])
theorem PS:LS C uh true [1] 96 (pc [1,1,1,0] Tryz.f29):=fun hc=>
 pO (Jd:=⟨Vf uh.join 2000003,uh.call,uh.loop⟩) hc rfl gy (by intros;simp only[gy,PD.m,nn])
theorem OS:LS C uh true [1] 96 (pc [1,1,1,1,0] Tryz.f29):=fun hc=>
 pO (Jd:=⟨Vf uh.join 2000004,uh.call,uh.loop⟩) hc rfl ey (by intros;simp only[ey,PD.m,nn])
theorem NS:LS C uh true [1] 96 (pc [1,1,1,1,1,0] Tryz.f29):=fun hc=>
 pO (Jd:=⟨Vf uh.join 2000005,uh.call,uh.loop⟩) hc rfl Dq (by intros;simp only[Dq,PD.m,nn])
theorem Lac:OK (1) 29 (X9.sp VB):=
 fO (d:=0) (env:=uh) (Da cn) (fn:=Tryz.f29) (mc:=@KP) (by intros;simp only[VB,KP,nn]) (Fa:=[1]) (hl:=fun hc=>(nc (by kernel_rfl) (Ua (SS hc) (Ua (QS hc) (Ua (PS hc) (Ua (OS hc) (Ua (NS hc) Kb)))))))
def p9:FS (Int×Int) (Bool)where
 sk:=⟨Gg,[],0⟩
 a:=fun u=>(u.1.1,u.1.2.1)
 o:=fun Z a r K=>kv K (.bool) [] 0 r ()
def mP{X:Type}(a:Int×Int)(K:Bool->Option X):Option X:=
 cond (decide ((0:Int)<=a.1))
 (K (decide (a.1<a.2)))
 (K false)
def iz:=fun a=>mP a some
def Uab:Spec:=p9.sp iz
noncomputable def aah:Env:=eE [] (yb []) qN
theorem Vab:OK (1) 61 (p9.sp iz):=
 fO (d:=0) (env:=aah) (Da cn) (fn:=Tryz.f61) (mc:=@mP) (by intros;simp only[iz,mP,nn])
def W9:FS (Wa×Int) (Bool)where
 sk:=⟨(cL [(.agg Mb),.i]),[],0⟩
 a:=fun u=>((q8 u.1.1),u.1.2.1)
 o:=fun Z a r K=>kv K (.bool) [] 0 r ()
def JP{X:Type}(a:Wa×Int)(K:Bool->Option X):Option X:=
 cond (decide (a.1.1=(15:Int)))
 ((iz (a.1.2.2.2.2.2.2.1,a.2)).bind fun r1=>
 cond r1
 ((iz (a.1.2.2.2.2.2.2.2,a.2)).bind fun r2=>
 K r2)
 (K false))
 (cond (decide (a.1.1=(21:Int)))
 (cond (decide (a.1.2.2.2.2.2.2.1=(-1:Int)))
 (K (decide (a.1.2.2.2.2.2.2.2=(-1:Int))))
 (K false))
 ((iz (a.1.2.2.2.2.2.2.1,a.2)).bind fun r3=>
 cond r3
 (K (decide (a.1.2.2.2.2.2.2.2=(-1:Int))))
 (K false)))
def SB:=fun a=>JP a some
def Hac:Spec:=W9.sp SB
noncomputable def sah:Env:=eE [] (yb [(61,Uab)]) qN
theorem Iac:OK (2) 30 (W9.sp SB):=
 fO (d:=1) (env:=sah) (Da (cc Vab cn)) (fn:=Tryz.f30) (mc:=@JP) (by intros;simp only[SB,JP,nn]) (Fa:=[2])
def V9:FS (Wa) ((List Int))where
 sk:=⟨(.cons (.agg Mb) .nil),[],0⟩
 a:=fun u=>(q8 u.1.1)
 o:=fun Z a r K=>kv K (.lit .i) [] 0 r ()
def IP{X:Type}(a:Wa)(K:(List Int)->Option X):Option X:=
 cond (decide (a.1=(2:Int)))
 (K ([a.2.2.1]:List Int))
 (cond (decide (a.1=(3:Int)))
 (K ([a.2.2.1]:List Int))
 (cond (decide (a.1=(13:Int)))
 (K ([a.2.2.1]:List Int))
 (cond (decide (a.1=(4:Int)))
 (K ([a.2.2.1,a.2.2.2.1]:List Int))
 (cond (decide (a.1=(5:Int)))
 (K ([a.2.2.1,a.2.2.2.1]:List Int))
 (cond (decide (a.1=(6:Int)))
 (K ([a.2.2.1,a.2.2.2.1]:List Int))
 (cond (decide (a.1=(7:Int)))
 (K ([a.2.2.1,a.2.2.2.1]:List Int))
 (cond (decide (a.1=(8:Int)))
 (K ([a.2.2.1,a.2.2.2.1]:List Int))
 (cond (decide (a.1=(9:Int)))
 (K ([a.2.2.1,a.2.2.2.1]:List Int))
 (cond (decide (a.1=(10:Int)))
 (K ([a.2.2.1,a.2.2.2.1]:List Int))
 (cond (decide (a.1=(15:Int)))
 (K ([a.2.2.1,a.2.2.2.1]:List Int))
 (cond (decide (a.1=(11:Int)))
 (K ([a.2.2.2.1]:List Int))
 (cond (decide (a.1=(14:Int)))
 (K ([a.2.1,a.2.2.2.1]:List Int))
 (K [])))))))))))))
def oF:=fun a=>IP a some
def Eac:Spec:=V9.sp oF
noncomputable def rah:Env:=eE [] (yb []) qN
theorem Fac:OK (1) 31 (V9.sp oF):=
 fO (d:=0) (env:=rah) (Da cn) (fn:=Tryz.f31) (mc:=@IP) (by intros;simp only[oF,IP,nn]) (Fa:=[1]) (sh:=(.lit (.int .i64))) (fz:=true)
def o9:FS (Y0) (Int×Bool)where
 sk:=⟨(cL [(.agg jb),(.lit .i),(.agg Mb)]),[],0⟩
 a:=fun u=>((q8 u.1.1),u.1.2.1,u.1.2.2.1.1,(q7 u.1.2.2.1.2))
 o:=fun Z a r K=>kv K (.Sc (cL [.i,.bool])) [] 0 (r.1,r.2,()) ()
def lP{X:Type}(a:Y0)(K:(Int×Bool)->Option X):Option X:=
 cond (decide (a.2.2.1=(2:Int)))
 (K (2,true))
 (cond (decide (a.2.2.1=(3:Int)))
 (K (2,true))
 (cond (decide (a.2.2.1=(4:Int)))
 (K (2,true))
 (cond (decide (a.2.2.1=(5:Int)))
 (K (2,true))
 (cond (decide (a.2.2.1=(6:Int)))
 (K (2,true))
 (cond (decide (a.2.2.1=(7:Int)))
 (K (12,true))
 (cond (decide (a.2.2.1=(8:Int)))
 (K (4,true))
 (cond (decide (a.2.2.1=(11:Int)))
 (K (16,true))
 (cond (decide (a.2.2.1=(14:Int)))
 (ask (V.ja a.2.2.2.2.1 (da a.1.2.2.2.2.2.2.1)) (cond (decide ((gx a.1.2.2.2.2.2.2.1 (fa a.2.2.2.2.1) fb).2.1=(3:Int)))
 (K (16,true))
 (K (18,true))))
 (cond (decide (a.2.2.1=(21:Int)))
 (K (32,true))
 (cond (decide (a.2.2.1=(13:Int)))
 (ask (V.ja a.2.2.2.1 (da a.1.2.2.2.2.2.1)) (cond (decide ((nt (da a.1.2.2.2.2.2.1))<=a.2.2.2.2.1))
 (ask (V.ja (Ea (a.2.2.2.2.1-(nt (da a.1.2.2.2.2.2.1)))) (da a.2.1)) (ask (V.ja (gx a.2.1 (fa (Ea (a.2.2.2.2.1-(nt (da a.1.2.2.2.2.2.1))))) (0:Int)) (da a.1.1)) (cond (decide ((gx a.1.1 (fa (gx a.2.1 (fa (Ea (a.2.2.2.2.1-(nt (da a.1.2.2.2.2.2.1))))) (0:Int))) Ta).1=(12:Int)))
 (ask (V.ja (gx a.1.1 (fa (gx a.2.1 (fa (Ea (a.2.2.2.2.1-(nt (da a.1.2.2.2.2.2.1))))) (0:Int))) Ta).2.2.1 (da a.1.2.2.2.2.1)) ((kp (gx a.1.2.2.2.2.2.1 (fa a.2.2.2.1) Bc).2.1).bind fun r1=>
 cond (decide (r1<=(gx a.1.2.2.2.2.1 (fa (gx a.1.1 (fa (gx a.2.1 (fa (Ea (a.2.2.2.2.1-(nt (da a.1.2.2.2.2.2.1))))) (0:Int))) Ta).2.2.1) fb).2.2.1))
 (ask (V.ja (gx a.1.1 (fa (gx a.2.1 (fa (Ea (a.2.2.2.2.1-(nt (da a.1.2.2.2.2.2.1))))) (0:Int))) Ta).2.2.1 (da a.1.2.2.2.2.1)) ((zq (gx a.1.2.2.2.2.2.1 (fa a.2.2.2.1) Bc).2.1).bind fun r2=>
 cond (decide ((gx a.1.2.2.2.2.1 (fa (gx a.1.1 (fa (gx a.2.1 (fa (Ea (a.2.2.2.2.1-(nt (da a.1.2.2.2.2.2.1))))) (0:Int))) Ta).2.2.1) fb).2.2.2<=r2))
 (K (2,false))
 (K (2,(!(decide ((gx a.1.2.2.2.2.2.1 (fa a.2.2.2.1) Bc).2.1=(3:Int))))))))
 (K (2,(!(decide ((gx a.1.2.2.2.2.2.1 (fa a.2.2.2.1) Bc).2.1=(3:Int))))))))
 (K (2,(!(decide ((gx a.1.2.2.2.2.2.1 (fa a.2.2.2.1) Bc).2.1=(3:Int)))))))))
 (K (2,(!(decide ((gx a.1.2.2.2.2.2.1 (fa a.2.2.2.1) Bc).2.1=(3:Int))))))))
 (K (0,false))))))))))))
def iF:=fun a=>lP a some
def Sab:Spec:=o9.sp iF
noncomputable def Zag:Env:=eE [] (yb [(59,sM),(60,yY)]) qN
theorem Tab:OK (3) 62 (o9.sp iF):=
 fO (d:=2) (env:=Zag) (Da (cc tM (cc zY cn))) (fn:=Tryz.f62) (mc:=@lP) (by intros;simp only[iF,lP,nn]) (Fa:=[3,5,10])
def U9:FS (Y0) (Bool)where
 sk:=⟨(cL [(.agg jb),(.lit .i),(.agg Mb)]),[],0⟩
 a:=fun u=>((q8 u.1.1),u.1.2.1,u.1.2.2.1.1,(q7 u.1.2.2.1.2))
 o:=fun Z a r K=>kv K (.bool) [] 0 r ()
def HP{X:Type}(a:Y0)(K:Bool->Option X):Option X:=
 (iF (a.1,a.2.1,a.2.2)).bind fun r1=>
 cond (decide (a.2.2.2.2.2.2.2.1=(0:Int)))
 (K (!r1.2))
 (cond (!(decide (r1.1=(0:Int))))
 (cond (decide ((0:Int)<a.2.2.2.2.2.2.2.1))
 (cond (decide (a.2.2.2.2.2.2.2.1<(nt (da a.1.2.2.2.2.2.2.2))))
 (ask (V.ja a.2.2.2.2.2.2.2.1 (da a.1.2.2.2.2.2.2.2)) (K (decide ((C1 .i64 (gx a.1.2.2.2.2.2.2.2 (fa a.2.2.2.2.2.2.2.1) Fb).2 r1.1)=r1.1))))
 (K false))
 (K false))
 (K false))
def mw:=fun a=>HP a some
def Cac:Spec:=U9.sp mw
noncomputable def qah:Env:=eE [] (yb [(62,Sab)]) qN
theorem Dac:OK (4) 32 (U9.sp mw):=
 fO (d:=3) (env:=qah) (Da (cc Tab cn)) (fn:=Tryz.f32) (mc:=@HP) (by intros;simp only[mw,HP,nn]) (Fa:=[3,5])
def T9:FS (Ga) (Bool)where
 sk:=⟨(.cons (.agg jb) .nil),[],0⟩
 a:=fun u=>(q8 u.1.1)
 o:=fun Z a r K=>kv K (.bool) [] 0 r ()
def Fo:LD (Bool×Int×Aa×Ga×(List Bool)) (Bool×Int) (Bool)where
 sk:=⟨[(1,.loc 0 0),(3,.v (.all 0)),(4,.v .bool),(5,.i),(6,.v .bool),(49,.v (.agg Gg)),(50,.i)],[jb],[.cells .bool],0,0⟩
 p:=fun u=>(u.1.2.1,u.1.2.2.1,(u.1.t4.1.1,u.1.t4.1.2.1),(q8 u.2.1.1),u.2.2.1)
 t:=fun u=>(u.1.t3.1,u.1.t5.1)
 n:=fun p t=>(((),p.1,p.2.1,t.1,(p.2.2.1.1,p.2.2.1.2,()),t.2,()),((r7 p.t3.1 (p.t3.1.t7,())),()),p.t4,())
 st:=fun Y p t ki ke=>cond (decide (t.2<(2:Int)))
  (cond (decide (t.2=(0:Int)))
  (cond t.1
  (cond (decide (p.2.2.1.1<(0:Int)))
  (ki (true,(Ea (t.2+(1:Int)))))
  (ask (V.ja p.2.2.1.1 (da p.2.2.2.2)) (ki ((gx p.2.2.2.2 (fa p.2.2.1.1) false),(Ea (t.2+(1:Int)))))))
  (ki (false,(Ea (t.2+(1:Int))))))
  (cond (decide (t.2=(1:Int)))
  (cond t.1
  (cond (decide (p.2.2.1.2<(0:Int)))
  (ki (true,(Ea (t.2+(1:Int)))))
  (ask (V.ja p.2.2.1.2 (da p.2.2.2.2)) (ki ((gx p.2.2.2.2 (fa p.2.2.1.2) false),(Ea (t.2+(1:Int)))))))
  (ki (false,(Ea (t.2+(1:Int))))))
  (none)))
  (ke (t.1))
 o:=fun Z p e K=>so K (.exit 4) ⟨[(1,.loc 0 0),(3,.v (.all 0)),(4,.v .bool),(5,.i),(6,.v .bool)],[jb],[.cells .bool],0,0⟩ (((),p.1,p.2.1,e,()),((r7 p.t3.1 (p.t3.1.t7,())),()),p.t4,())
 Dd:=⟨[1,3,4,5,6,49,50],[],[],[]⟩
 pe:=[(.exit 4,⟨[1,3,4,5,6],[],[],[]⟩)]
def Cq:LD (Ga) (Bool×Int×(List Bool)) (Bool×(List Bool))where
 sk:=⟨[(1,.loc 0 0),(3,.v (.all 0)),(4,.v .bool),(5,.i)],[jb],[.cells .bool],0,0⟩
 p:=fun u=>(q8 u.2.1.1)
 t:=fun u=>(u.1.2.1,u.1.2.2.1,u.2.2.1)
 n:=fun p t=>(((),t.1,t.2.1,()),((r7 p (p.t7,())),()),t.2.2,())
 st:=fun Y p t ki ke=>cond (decide ((0:Int)<=t.2.1))
  (ask (V.ja t.2.1 (da t.2.2)) (cond (gx t.2.2 (fa t.2.1) false)
  (ki (t.1,(Ea (t.2.1-(1:Int))),t.2.2))
  (ask (V.ja t.2.1 (da p.1)) (cond (!(decide ((gx p.1 (fa t.2.1) Ta).1=(17:Int))))
  (ask (V.ja t.2.1 (da p.1)) (cond (!(decide ((gx p.1 (fa t.2.1) Ta).1=(20:Int))))
  (ask (V.ja t.2.1 (da p.1)) ((Ma (Fo.m (t.1,t.2.1,(gx p.1 (fa t.2.1) Ta).2.2.2.2.2.2,p,t.2.2)) (true,0)).bind fun e1=>
  cond e1
  (ask (V.ja t.2.1 (da t.2.2)) (ki (true,(Ea (t.2.1-(1:Int))),(Qa t.2.2 (fa t.2.1) true))))
  (ki (t.1,(Ea (t.2.1-(1:Int))),t.2.2))))
  (ask (V.ja t.2.1 (da t.2.2)) (ki (true,(Ea (t.2.1-(1:Int))),(Qa t.2.2 (fa t.2.1) true))))))
  (ask (V.ja t.2.1 (da t.2.2)) (ki (true,(Ea (t.2.1-(1:Int))),(Qa t.2.2 (fa t.2.1) true))))))))
  (ke ((t.1,t.2.2)))
 o:=fun Z p e K=>so K (.exit 2) ⟨[(1,.loc 0 0),(3,.v (.all 0)),(4,.v .bool)],[jb],[.cells .bool],0,0⟩ (((),e.1,()),((r7 p (p.t7,())),()),e.2,())
 Dd:=⟨[1,3,4,5],[],[],[]⟩
 pe:=[(.exit 2,⟨[1,3,4],[],[],[]⟩)]
def Zx:LD (Ga) (Bool×(List Bool)) ((List Bool))where
 sk:=⟨[(1,.loc 0 0),(3,.v (.all 0)),(4,.v .bool)],[jb],[.cells .bool],0,0⟩
 p:=fun u=>(q8 u.2.1.1)
 t:=fun u=>(u.1.2.1,u.2.2.1)
 n:=fun p t=>(((),t.1,()),((r7 p (p.t7,())),()),t.2,())
 st:=fun Y p t ki ke=>cond t.1
  ((Ma (Cq.m p) (false,(Ea ((nt (da p.1))-(1:Int))),t.2)).bind fun e1=>
  ki (e1.1,e1.2))
  (ke (t.2))
 o:=fun Z p e K=>so K (.exit 0) ⟨[(3,.v (.all 0))],[],[.cells .bool],0,0⟩ (((),()),(),e,())
 Dd:=⟨[1,3,4],[],[],[]⟩
 pe:=[(.exit 0,⟨[3],[],[],[]⟩)]
def Eo:LD (Int×(List Bool)) (Int) ((Unit) ⊕ (Unit))where
 sk:=⟨[(69,.v (.all 0)),(70,.i),(71,.i)],[],[.cells .bool],0,0⟩
 p:=fun u=>(u.1.2.1,u.2.2.1)
 t:=fun u=>u.1.2.2.1
 n:=fun p t=>(((),p.1,t,()),(),p.2,())
 st:=fun Y p t ki ke=>cond (decide (t<p.1))
  (ask (V.ja t (da p.2)) (cond (!(gx p.2 (fa t) false))
  (ke (.inl ()))
  (ki ((Ea (t+(1:Int)))))))
  (ke (.inr (())))
 o:=fun Z p e K=>Sum.elim (fun e=>so K (.ret) ⟨[(2,.v .bool)],[],[],0,0⟩ ((false,()),(),())) (fun e=>so K (.exit 6) ⟨[],[],[],0,0⟩ ((),(),())) e
 Dd:=⟨[69,70,71],[],[],[]⟩
 pe:=[(.ret,⟨[2],[],[],[]⟩),(.exit 6,⟨[],[],[],[]⟩)]
def GP{X:Type}(a:Ga)(K:Bool->Option X):Option X:=
 ask (decide (0<=(nt (da a.1)))&&decide ((nt (da a.1))<=(nt (da a.1)))&&decide (1 * (nt (da a.1))<=70368744177664)&&decide ((nt (da a.1))<9223372036854775808)) ((Ma (Zx.m a) (true,(Ca (fa (nt (da a.1))) (false:Bool)))).bind fun e1=>
 (Ma (Eo.m ((nt (da e1)),e1)) 0).bind fun e2=>
 Sum.elim (fun e3=>K false)
 (fun e4=>K true) e2)
def nF:=fun a=>GP a some
def zac:Spec:=T9.sp nF
noncomputable def eK:Env:=eE [] (yb []) (qL 12 Fo.q (qL 6 Cq.q (qL 3 Zx.q (qL 20 Eo.q qN))))
theorem IM:LS C eK true [1] 78 (.loop (pc [1,1,0,1,0,0,1,0,1,1,0,0,1,0,0,1,1,0,1,0,1,0,0] Tryz.f33)):=fun hc=>
 lO hc Fo (by intros;simp only[Fo,LD.m,nn])
theorem JS:LS C eK true [1] 78 (.loop (pc [1,1,0,1,0,0,1,0,1,1,0,0] Tryz.f33)):=fun hc=>
 lO hc Cq (by intros;simp only[Cq,LD.m,nn]) (hl:=(nc (by kernel_rfl) (Ua (IM hc) Kb)))
theorem KS:LS C eK true [1] 78 (.loop (pc [1,1,0,1,0,0] Tryz.f33)):=fun hc=>
 lO hc Zx (by intros;simp only[Zx,LD.m,nn]) (hl:=(nc (by kernel_rfl) (Ua (JS hc) Kb)))
theorem HM:LS C eK true [1] 78 (.loop (pc [1,1,1,0,1,0,0] Tryz.f33)):=fun hc=>
 lO hc Eo (by intros;simp only[Eo,LD.m,nn])
theorem Aac:OK (1) 33 (T9.sp nF):=
 fO (d:=0) (env:=eK) (Da cn) (fn:=Tryz.f33) (mc:=@GP) (by intros;simp only[nF,GP,nn]) (Fa:=[1]) (hl:=fun hc=>(nc (by kernel_rfl) (Ua (KS hc) (Ua (HM hc) Kb))))
def Iag:FS (Ga) (Bool)where
 sk:=⟨(.cons (.agg jb) .nil),[],0⟩
 a:=fun u=>(q8 u.1.1)
 o:=fun Z a r K=>kv K (.bool) [] 0 r ()
def dF:PD (Ga) (Bool)where
 sk:=⟨[(1,.loc 0 0)],[jb],[],0,0⟩
 p:=fun u=>(q8 u.2.1.1)
 st:=fun Y p ke=>cond (decide ((nt (da p.1))<(1:Int)))
  (ke (true))
  (cond (decide ((4096:Int)<(nt (da p.1))))
  (ke (true))
  (cond (decide (p.2.1<(0:Int)))
  (ke (true))
  (cond (decide ((nt (da p.1))<=p.2.1))
  (ke (true))
  (ask (V.ja p.2.1 (da p.1)) (cond (!(decide ((gx p.1 (fa p.2.1) Ta).1=(17:Int))))
  (ke (true))
  ((sF p).bind fun r1=>
  ke ((!r1))))))))
 o:=fun Z p e K=>so K (.normal) ⟨[(1,.loc 0 0),(47,.v .bool)],[jb],[],0,0⟩ ((e,()),((r7 p (p.t7,())),()),())
 Dd:=⟨[1],[],[],[]⟩
 pe:=[(.normal,⟨[1,47],[],[],[]⟩)]
def cF:PD ((List Int)×Int×(List Wa)×Int×Int×Ga×Wa) (Bool)where
 sk:=⟨[(1,.loc 0 0),(3,.v (.lit .i)),(5,.i),(6,.loc 1 0),(56,.v (.lit Qd)),(57,.i),(58,.i)],[jb,Mb],[],0,0⟩
 p:=fun u=>(r5 u.1 ((q8 u.2.1.1),u.2.1.2.1.1,(q7 u.2.1.2.1.2)))
 st:=fun Y p ke=>cond (decide (p.2.2.2.2.2.2.1<(1:Int)))
  (ke (true))
  (cond (decide ((22:Int)<=p.2.2.2.2.2.2.1))
  (ke (true))
  (cond (decide (p.2.2.2.2.2.2.1=(17:Int)))
  (cond (!(decide (p.2.1=p.2.2.2.2.2.1.2.1)))
  (ke (true))
  ((VB p.2.2.2.2.2.2).bind fun r1=>
  cond (!r1)
  (ke (true))
  ((SB (p.2.2.2.2.2.2,(nt (da p.2.2.2.2.2.1.1)))).bind fun r2=>
  ke ((!r2)))))
  ((VB p.2.2.2.2.2.2).bind fun r3=>
  cond (!r3)
  (ke (true))
  ((SB (p.2.2.2.2.2.2,(nt (da p.2.2.2.2.2.1.1)))).bind fun r4=>
  ke ((!r4))))))
 o:=fun Z p e K=>so K (.normal) ⟨[(1,.loc 0 0),(3,.v (.lit .i)),(5,.i),(6,.loc 1 0),(56,.v (.lit Qd)),(57,.i),(58,.i),(94,.v .bool)],[jb,Mb],[],0,0⟩ ((r5 p (e,())),((r7 p.t5.1 (p.t5.1.t7,())),(r7 p.t6 (p.t13,())),()),())
 Dd:=⟨[1,3,5,6,56,57,58],[],[],[]⟩
 pe:=[(.normal,⟨[1,3,5,6,56,57,58,94],[],[],[]⟩)]
def Xx:PD ((List Int)×Int×Int×(List Wa)×Int×Int×(List Int)×Int×Int×(Ga×Wa)) (Bool)where
 sk:=⟨[(1,.loc 0 0),(3,.v (.lit .i)),(5,.i),(6,.loc 1 0),(8,.i),(56,.v (.lit Qd)),(57,.i),(58,.i),(96,.v (.lit .i)),(97,.i),(98,.i)],[jb,Mb],[],0,0⟩
 p:=fun u=>(r9 u.1 ((q8 u.2.1.1),(q8 u.2.1.2.1)))
 st:=fun Y p ke=>cond (decide (p.2.2.1<(0:Int)))
  (ke (true))
  (cond (decide (p.2.2.2.2.2.2.2.2.2.1.2.2.1<=p.2.2.1))
  (ke (true))
  (cond (decide ((nt (da p.2.2.2.2.2.2.2.2.2.1.2.2.2.2.2.1))<=p.2.2.1))
  (ask (V.ja (Ea (p.2.2.1-(nt (da p.2.2.2.2.2.2.2.2.2.1.2.2.2.2.2.1)))) (da p.1)) (ke ((decide (p.2.1<=(gx p.1 (fa (Ea (p.2.2.1-(nt (da p.2.2.2.2.2.2.2.2.2.1.2.2.2.2.2.1))))) (0:Int)))))))
  (ke (false))))
 o:=fun Z p e K=>so K (.normal) ⟨[(1,.loc 0 0),(3,.v (.lit .i)),(5,.i),(6,.loc 1 0),(56,.v (.lit Qd)),(57,.i),(58,.i),(96,.v (.lit .i)),(97,.i),(98,.i),(128,.v .bool)],[jb,Mb],[],0,0⟩ ((p.1,p.2.1,(r6 p.t3 (e,()))),((r7 p.t9.1 (p.t9.1.t7,())),(r7 p.t10 (p.t17,())),()),())
 Dd:=⟨[1,3,5,6,8,56,57,58,96,97,98],[],[],[]⟩
 pe:=[(.normal,⟨[1,3,5,6,56,57,58,96,97,98,128],[],[],[]⟩)]
def wq:LD ((List Int)×Int×(List Wa)×Int×Int×(List Int)×Int×Ga×Wa) (Int) ((Unit) ⊕ (Unit))where
 sk:=⟨[(1,.loc 0 0),(3,.v (.lit .i)),(5,.i),(6,.loc 1 0),(56,.v (.lit Qd)),(57,.i),(58,.i),(96,.v (.lit .i)),(97,.i),(98,.i)],[jb,Mb],[],0,0⟩
 p:=fun u=>(r7 u.1 ((q8 u.2.1.1),u.2.1.2.1.1,(q7 u.2.1.2.1.2)))
 t:=fun u=>u.1.t7.1
 n:=fun p t=>((r7 p (t,())),((r7 p.t7.1 (p.t7.1.t7,())),(r7 p.t8 (p.t15,())),()),())
 st:=fun Y p t ki ke=>cond (decide (t<p.2.2.2.2.2.2.1))
  (ask (V.ja t (da p.2.2.2.2.2.1)) ((Xx.m (p.1,p.2.1,(gx p.2.2.2.2.2.1 (fa t) (0:Int)),p.2.2.1,p.2.2.2.1,p.2.2.2.2.1,p.2.2.2.2.2.1,p.2.2.2.2.2.2.1,t,p.2.2.2.2.2.2.2)).bind fun e1=>
  cond e1
  (ke (.inl ()))
  (ki ((Ea (t+(1:Int)))))))
  (ke (.inr (())))
 o:=fun Z p e K=>Sum.elim (fun e=>so K (.ret) ⟨[(2,.v .bool)],[],[],0,0⟩ ((false,()),(),())) (fun e=>so K (.exit 2) ⟨[(1,.loc 0 0),(3,.v (.lit .i)),(6,.loc 1 0),(56,.v (.lit Qd)),(57,.i),(58,.i)],[jb,Mb],[],0,0⟩ ((p.1,(r3 p.2.2 ())),((r7 p.t7.1 (p.t7.1.t7,())),(r7 p.t8 (p.t15,())),()),())) e
 Dd:=⟨[1,3,5,6,56,57,58,96,97,98],[],[],[]⟩
 pe:=[(.ret,⟨[2],[],[],[]⟩),(.exit 2,⟨[1,3,6,56,57,58],[],[],[]⟩)]
def Wx:PD (Y1) (Bool)where
 sk:=⟨[(1,.loc 0 0),(3,.v (.lit .i)),(6,.loc 1 0),(56,.v (.lit Qd)),(57,.i),(58,.i)],[jb,Mb],[],0,0⟩
 p:=fun u=>(r4 u.1 ((q8 u.2.1.1),u.2.1.2.1.1,(q7 u.2.1.2.1.2)))
 st:=fun Y p ke=>cond (decide (p.2.2.2.2.2.1=(11:Int)))
  (ke (true))
  (ke ((decide (p.2.2.2.2.2.1=(14:Int)))))
 o:=fun Z p e K=>so K (.normal) ⟨[(1,.loc 0 0),(3,.v (.lit .i)),(6,.loc 1 0),(9,.v .bool),(56,.v (.lit Qd)),(57,.i),(58,.i)],[jb,Mb],[],0,0⟩ ((p.1,e,(r3 p.2 ())),((r7 p.t4.1 (p.t4.1.t7,())),(r7 p.t5 (p.t12,())),()),())
 Dd:=⟨[1,3,6,56,57,58],[],[],[]⟩
 pe:=[(.normal,⟨[1,3,6,9,56,57,58],[],[],[]⟩)]
def Vx:PD ((List Int)×Bool×(List Wa)×Int×Int×Ga×Wa) (Bool)where
 sk:=⟨[(1,.loc 0 0),(3,.v (.lit .i)),(6,.loc 1 0),(9,.v .bool),(56,.v (.lit Qd)),(57,.i),(58,.i)],[jb,Mb],[],0,0⟩
 p:=fun u=>(r5 u.1 ((q8 u.2.1.1),u.2.1.2.1.1,(q7 u.2.1.2.1.2)))
 st:=fun Y p ke=>cond p.2.1
  (cond (decide (p.2.2.2.2.2.2.2.2.1<(0:Int)))
  (ke (true))
  (cond (decide ((nt (da p.2.2.2.2.2.1.2.2.2.2.2.2.1))<=p.2.2.2.2.2.2.2.2.1))
  (ke (true))
  (cond (decide (p.2.2.2.2.2.2.1=(12:Int)))
  (cond (decide (p.2.2.2.2.2.2.2.2.1<(0:Int)))
  (ke (true))
  (cond (decide ((nt (da p.2.2.2.2.2.1.2.2.2.2.1))<=p.2.2.2.2.2.2.2.2.1))
  (ke (true))
  (cond (decide (p.2.2.2.2.2.2.1=(13:Int)))
  (cond (decide (p.2.2.2.2.2.2.2.1<(0:Int)))
  (ke (true))
  (ke ((decide ((nt (da p.2.2.2.2.2.1.2.2.2.2.2.1))<=p.2.2.2.2.2.2.2.1)))))
  (ke (false)))))
  (cond (decide (p.2.2.2.2.2.2.1=(13:Int)))
  (cond (decide (p.2.2.2.2.2.2.2.1<(0:Int)))
  (ke (true))
  (ke ((decide ((nt (da p.2.2.2.2.2.1.2.2.2.2.2.1))<=p.2.2.2.2.2.2.2.1)))))
  (ke (false))))))
  (cond (decide (p.2.2.2.2.2.2.1=(12:Int)))
  (cond (decide (p.2.2.2.2.2.2.2.2.1<(0:Int)))
  (ke (true))
  (cond (decide ((nt (da p.2.2.2.2.2.1.2.2.2.2.1))<=p.2.2.2.2.2.2.2.2.1))
  (ke (true))
  (cond (decide (p.2.2.2.2.2.2.1=(13:Int)))
  (cond (decide (p.2.2.2.2.2.2.2.1<(0:Int)))
  (ke (true))
  (ke ((decide ((nt (da p.2.2.2.2.2.1.2.2.2.2.2.1))<=p.2.2.2.2.2.2.2.1)))))
  (ke (false)))))
  (cond (decide (p.2.2.2.2.2.2.1=(13:Int)))
  (cond (decide (p.2.2.2.2.2.2.2.1<(0:Int)))
  (ke (true))
  (ke ((decide ((nt (da p.2.2.2.2.2.1.2.2.2.2.2.1))<=p.2.2.2.2.2.2.2.1)))))
  (ke (false))))
 o:=fun Z p e K=>so K (.normal) ⟨[(1,.loc 0 0),(3,.v (.lit .i)),(6,.loc 1 0),(56,.v (.lit Qd)),(57,.i),(58,.i),(187,.v .bool)],[jb,Mb],[],0,0⟩ ((p.1,(r3 p.2.2 (e,()))),((r7 p.t5.1 (p.t5.1.t7,())),(r7 p.t6 (p.t13,())),()),())
 Dd:=⟨[1,3,6,9,56,57,58],[],[],[]⟩
 pe:=[(.normal,⟨[1,3,6,56,57,58,187],[],[],[]⟩)]
def Ux:PD (Y1) (Bool)where
 sk:=⟨[(1,.loc 0 0),(3,.v (.lit .i)),(6,.loc 1 0),(56,.v (.lit Qd)),(57,.i),(58,.i)],[jb,Mb],[],0,0⟩
 p:=fun u=>(r4 u.1 ((q8 u.2.1.1),u.2.1.2.1.1,(q7 u.2.1.2.1.2)))
 st:=fun Y p ke=>cond (decide (p.2.2.2.2.2.1=(1:Int)))
  (cond (decide (p.2.2.2.2.2.2.2.2.2.1<(-2147483648:Int)))
  (ke (true))
  (cond (decide ((2147483647:Int)<p.2.2.2.2.2.2.2.2.2.1))
  (ke (true))
  (cond (decide (p.2.2.2.2.2.1=(15:Int)))
  (cond (decide (p.2.2.2.2.2.2.2.2.2.1<(14:Int)))
  (ke (true))
  (cond (decide ((19:Int)<p.2.2.2.2.2.2.2.2.2.1))
  (ke (true))
  ((mw (p.2.2.2.2.1,p.1,p.2.2.2.2.2)).bind fun r1=>
  ke ((!r1)))))
  ((mw (p.2.2.2.2.1,p.1,p.2.2.2.2.2)).bind fun r2=>
  ke ((!r2))))))
  (cond (decide (p.2.2.2.2.2.1=(15:Int)))
  (cond (decide (p.2.2.2.2.2.2.2.2.2.1<(14:Int)))
  (ke (true))
  (cond (decide ((19:Int)<p.2.2.2.2.2.2.2.2.2.1))
  (ke (true))
  ((mw (p.2.2.2.2.1,p.1,p.2.2.2.2.2)).bind fun r3=>
  ke ((!r3)))))
  ((mw (p.2.2.2.2.1,p.1,p.2.2.2.2.2)).bind fun r4=>
  ke ((!r4))))
 o:=fun Z p e K=>so K (.normal) ⟨[(1,.loc 0 0),(3,.v (.lit .i)),(56,.v (.lit Qd)),(57,.i),(58,.i),(222,.v .bool)],[jb],[],0,0⟩ ((r4 p (e,())),((r7 p.t4.1 (p.t4.1.t7,())),()),())
 Dd:=⟨[1,3,6,56,57,58],[],[],[]⟩
 pe:=[(.normal,⟨[1,3,56,57,58,222],[],[],[]⟩)]
def ez:LD ((List Int)×(List Wa)×Int×Ga) (Int) ((Unit) ⊕ (Unit))where
 sk:=⟨[(1,.loc 0 0),(3,.v (.lit .i)),(56,.v (.lit Qd)),(57,.i),(58,.i)],[jb],[],0,0⟩
 p:=fun u=>(r3 u.1 (q8 u.2.1.1))
 t:=fun u=>u.1.t3.1
 n:=fun p t=>((r3 p (t,())),((r7 p.t3 (p.t10,())),()),())
 st:=fun Y p t ki ke=>cond (decide (t<p.2.2.1))
  (ask (V.ja t (da p.2.1)) ((cF.m (p.1,t,p.2.1,p.2.2.1,t,p.2.2.2,(gx p.2.1 (fa t) Ta))).bind fun e1=>
  cond e1
  (ke (.inl ()))
  ((oF (gx p.2.1 (fa t) Ta)).bind fun r2=>
  (Ma (wq.m (p.1,t,p.2.1,p.2.2.1,t,r2,(nt (da r2)),p.2.2.2,(gx p.2.1 (fa t) Ta))) 0).bind fun e3=>
  Sum.elim (fun e4=>ke (.inl ()))
  (fun e5=>(Wx.m (p.1,p.2.1,p.2.2.1,t,p.2.2.2,(gx p.2.1 (fa t) Ta))).bind fun e6=>
  (Vx.m (p.1,e6,p.2.1,p.2.2.1,t,p.2.2.2,(gx p.2.1 (fa t) Ta))).bind fun e7=>
  cond e7
  (ke (.inl ()))
  ((Ux.m (p.1,p.2.1,p.2.2.1,t,p.2.2.2,(gx p.2.1 (fa t) Ta))).bind fun e8=>
  cond e8
  (ke (.inl ()))
  (ki ((Ea (t+(1:Int))))))) e3)))
  (ke (.inr (())))
 o:=fun Z p e K=>Sum.elim (fun e=>so K (.ret) ⟨[(2,.v .bool)],[],[],0,0⟩ ((false,()),(),())) (fun e=>so K (.exit 0) ⟨[(1,.loc 0 0)],[jb],[],0,0⟩ ((),((r7 p.t3 (p.t10,())),()),())) e
 Dd:=⟨[1,3,56,57,58],[],[],[]⟩
 pe:=[(.ret,⟨[2],[],[],[]⟩),(.exit 0,⟨[1],[],[],[]⟩)]
def Q5{X:Type}(a:Ga)(K:Bool->Option X):Option X:=
 (dF.m a).bind fun e1=>
 cond e1
 (K false)
 ((rF a).bind fun r2=>
 cond (!r2.2)
 (K false)
 ((Ma (ez.m (r2.1,a.1,(nt (da a.1)),a)) 0).bind fun e3=>
 Sum.elim (fun e4=>K false)
 (fun e5=>(nF a).bind fun r6=>
 K r6) e3))
def dS:=fun a=>Q5 a some
def Hag:Spec:=Iag.sp dS
noncomputable def cj:Env:=eE [2000001,2000009,2000014,2000017,2000018,2000020] (yb [(27,Qac),(28,Nac),(29,Kac),(30,Hac),(31,Eac),(32,Cac),(33,zac)]) (qL 2000001 dF.q (qL 2000009 cF.q (qL 2000014 Xx.q (qL 12 wq.q (qL 2000017 Wx.q (qL 2000018 Vx.q (qL 2000020 Ux.q (qL 7 ez.q qN))))))))
theorem aX:LS C cj true [1,6] 226 (pc [1,0,0] Tryz.f8):=fun hc=>
 pO (Jd:=⟨Vf cj.join 2000001,cj.call,cj.loop⟩) hc rfl dF (by intros;simp only[dF,PD.m,nn])
theorem ZW:LS C cj true [1,6] 226 (pc [1,1,1,1,0,1,0,0,1,1,0,0,1,0,0] Tryz.f8):=fun hc=>
 pN (n':=fun p=>((r5 p ()),((r7 p.t5.1 (p.t5.1.t7,())),(r7 p.t6 (p.t13,())),()),())) (Jd:=⟨Vf cj.join 2000009,cj.call,cj.loop⟩) hc rfl cF (by intros;simp only[cF,PD.m,nn])
theorem cS:LS C cj true [1,6] 226 (pc [1,1,1,1,0,1,0,0,1,1,0,0,1,1,0,1,0,0,1,1,0,0,1,0] Tryz.f8):=fun hc=>
 pN (n':=fun p=>((r9 p ()),((r7 p.t9.1 (p.t9.1.t7,())),(r7 p.t10 (p.t17,())),()),())) (Jd:=⟨Vf cj.join 2000014,cj.call,cj.loop⟩) hc rfl Xx (by intros;simp only[Xx,PD.m,nn])
theorem eS:LS C cj true [1,6] 226 (.loop (pc [1,1,1,1,0,1,0,0,1,1,0,0,1,1,0,1,0,0] Tryz.f8)):=fun hc=>
 lO hc wq (by intros;simp only[wq,LD.m,nn]) (hl:=(nc (by kernel_rfl) (Ua (cS hc) Kb)))
theorem bS:LS C cj true [1,6] 226 (pc [1,1,1,1,0,1,0,0,1,1,0,0,1,1,1,0] Tryz.f8):=fun hc=>
 pN (n':=fun p=>((r4 p ()),((r7 p.t4.1 (p.t4.1.t7,())),(r7 p.t5 (p.t12,())),()),())) (Jd:=⟨Vf cj.join 2000017,cj.call,cj.loop⟩) hc rfl Wx (by intros;simp only[Wx,PD.m,nn])
theorem aS:LS C cj true [1,6] 226 (pc [1,1,1,1,0,1,0,0,1,1,0,0,1,1,1,1,0,0] Tryz.f8):=fun hc=>
 pN (n':=fun p=>((r5 p ()),((r7 p.t5.1 (p.t5.1.t7,())),(r7 p.t6 (p.t13,())),()),())) (Jd:=⟨Vf cj.join 2000018,cj.call,cj.loop⟩) hc rfl Vx (by intros;simp only[Vx,PD.m,nn])
theorem ZR:LS C cj true [1,6] 226 (pc [1,1,1,1,0,1,0,0,1,1,0,0,1,1,1,1,1,0] Tryz.f8):=fun hc=>
 pN (n':=fun p=>((r4 p ()),((r7 p.t4.1 (p.t4.1.t7,())),(r7 p.t5 (p.t12,())),()),())) (Jd:=⟨Vf cj.join 2000020,cj.call,cj.loop⟩) hc rfl Ux (by intros;simp only[Ux,PD.m,nn])
theorem bX:LS C cj true [1,6] 226 (.loop (pc [1,1,1,1,0,1,0,0] Tryz.f8)):=fun hc=>
 lO hc ez (by intros;simp only[ez,LD.m,nn]) (hl:=(nc (by kernel_rfl) (Ua (ZW hc) (Ua (eS hc) (Ua (bS hc) (Ua (aS hc) (Ua (ZR hc) Kb)))))))
theorem Jag:OK (5) 8 (Iag.sp dS):=
 fO (d:=4) (env:=cj) (Da (cc Rac (cc Oac (cc Lac (cc Iac (cc Fac (cc Dac (cc Aac cn)))))))) (fn:=Tryz.f8) (mc:=@Q5) (by intros;simp only[dS,Q5,nn]) (Fa:=[1,6]) (hl:=fun hc=>(nc (by kernel_rfl) (Ua (aX hc) (Ua (bX hc) Kb))))
end
end Go.U
end
