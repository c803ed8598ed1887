/- The functions of the program as Lean functions, and that the evaluator says so. -/
import Derived.Test.YtcbcifeaalkdfaaGreatDoorB3
import Derived.Test.YtcbcifeaalkdfaaGreatDoorA4
import Derived.Test.YtcbcifeaalkdfaaGreatDoorProg
import Derived.KernelRfl
import Derived.Test.YtcbcifeaalkdfaaGreatDoorB4
import Derived.Lib.ItoaNum
set_option linter.unusedVariables false
set_option linter.unusedSimpArgs false
set_option linter.unusedSectionVars false
open BitVec renaming ofInt→Pj
open Int renaming toNat→ia,tmod→zb
open List renaming range→mb,length→fa,set→Wb,replicate→fb
open Nat renaming le_trans→Db
open Option renaming bind_eq_some_iff→aa
open Prod.mk renaming injEq→Qe
namespace Go.U
open Go Go.Proofs
def Ka(n:Int):Int:=IntKind.wrap .i64 n
def Ia(n:Int):Int:=IntKind.wrap .u64 n
def CN(n:Int):Int:=IntKind.wrap .u8 n
def nt(n:Nat):Int:=n
def gx{α:Type}(l:List α)(i:Nat)(d:α):α:=l.getD i d
def str(l:List UInt8):ByteArray:=⟨l.toArray⟩
def len8:List UInt8:=[0,1,2,2,3,3,3,3,4,4,4,4,4,4,4,4,5,5,5,5,5,5,5,5,5,5,5,5,5,5,5,5,6,6,6,6,6,6,6,6,6,6,6,6,6,6,6,6,6,6,6,6,6,6,6,6,6,6,6,6,6,6,6,6,7,7,7,7,7,7,7,7,7,7,7,7,7,7,7,7,7,7,7,7,7,7,7,7,7,7,7,7,7,7,7,7,7,7,7,7,7,7,7,7,7,7,7,7,7,7,7,7,7,7,7,7,7,7,7,7,7,7,7,7,7,7,7,7,8,8,8,8,8,8,8,8,8,8,8,8,8,8,8,8,8,8,8,8,8,8,8,8,8,8,8,8,8,8,8,8,8,8,8,8,8,8,8,8,8,8,8,8,8,8,8,8,8,8,8,8,8,8,8,8,8,8,8,8,8,8,8,8,8,8,8,8,8,8,8,8,8,8,8,8,8,8,8,8,8,8,8,8,8,8,8,8,8,8,8,8,8,8,8,8,8,8,8,8,8,8,8,8,8,8,8,8,8,8,8,8,8,8,8,8,8,8,8,8,8,8,8,8,8,8,8,8]
def Nr(s:ByteArray)(i:Int):Int:=(s[i.toNat]!.toNat:Int)
def Ic(k:IntKind)(x y:Int):Int:=let a:=Pj k.bits x;let b:=Pj k.bits y;k.wrap (a &&& b).toNat
def Sl(k:IntKind)(x y:Int):Int:=let a:=Pj k.bits x;let b:=Pj k.bits y;k.wrap (a ||| b).toNat
abbrev HU:CT:=(.pair .bool .bool)
abbrev Uf:Type:=(Bool×Bool)
abbrev Ge:Uf:=(false,false)
abbrev bu:CT:=(.pair (.int .i64) (.int .i64))
abbrev Kd:Type:=(Int×Int)
abbrev We:Kd:=((0:Int),(0:Int))
abbrev vak:Type:=(Int×Int)
abbrev pn:CT:=(.pair .str bu)
abbrev Ul:Type:=(ByteArray×Kd)
abbrev ud:Ul:=(ByteArray.empty,We)
abbrev Ma:CT:=(.pair .bool bu)
abbrev ga:Type:=(Bool×Kd)
abbrev Aa:ga:=(false,We)
abbrev rF:Type:=(vak×Bool)
abbrev Ni:CT:=(.pair .str (.pair (.int .i64) bu))
abbrev Yk:Type:=(ByteArray×(Int×Kd))
abbrev Ob:Yk:=(ByteArray.empty,((0:Int),We))
abbrev Rc:CT:=(.pair .bool (.pair (.slice Ma) (.slice Ma)))
abbrev Ga:Type:=(Bool×((List ga)×(List ga)))
abbrev Kb:Ga:=(false,([],[]))
abbrev Vd:CT:=(.pair (.int .i64) (.pair (.int .i64) (.pair (.int .i64) (.pair (.int .i64) (.pair (.int .i64) (.pair (.int .i64) bu))))))
abbrev Lb:Type:=(Int×(Int×(Int×(Int×(Int×(Int×Kd))))))
abbrev Pb:Lb:=((0:Int),((0:Int),((0:Int),((0:Int),((0:Int),((0:Int),We))))))
abbrev gh:CT:=(.pair (.slice Vd) (.pair (.int .i64) (.pair (.int .i64) (.pair (.int .i64) (.pair (.slice Ni) (.pair (.slice pn) (.pair (.slice Ni) (.slice bu))))))))
abbrev Ba:Type:=((List Lb)×(Int×(Int×(Int×((List Yk)×((List Ul)×((List Yk)×(List Kd))))))))
def Jv(f:Func):Code:=match f.body with|some c=>c|none=> .skip
def kid:Code->Nat->Code
 | .seq a _,0=>a
 | .seq _ b,1=>b
 | .cond _ a _,0=>a
 | .cond _ _ b,1=>b
 | .block _ c,0=>c
 | .loop c,0=>c
 | .scope c,0=>c
 | .rangeFunc _ _ a _,0=>a
 | .rangeFunc _ _ _ b,1=>b
 |c,_=>c
def rR:List Nat->Code->Code
 |[],c=>c
 |i::l,c=>rR l (kid c i)
def uaq(j:Nat->Bool)(key k:Nat):Bool:=if k=key then false else j k
def vo{α:Type}(d:α):List (FuncId×α)->FuncId->α
 |[],_=>d
 |(g,x)::l,f=>if f=g then x else vo d l f
def rfG:Code->Operand
 | .rangeFunc g _ _ _=>g
 |_=> .tmp 0
def Gal:Code->Array Tmp
 | .rangeFunc _ ps _ _=>ps
 |_=> #[]
def rfA:Code->Code
 | .rangeFunc _ _ a _=>a
 |c=>c
def rfB:Code->Code
 | .rangeFunc _ _ _ b=>b
 |c=>c
def Hal(n:Nat)(c:Code):RFn:=⟨n,(Gal c).toList,rfA c,rfB c⟩
noncomputable def rfT:Nat->RFn:=vo ⟨0,[],.skip,.skip⟩ [(250004,Hal 28 (rR [1,1,0,1,0] (Jv Tryz.f25))),(260009,Hal 44 (rR [1,1,1,0,1,0] (Jv Tryz.f26)))]
noncomputable instance:Uv:=⟨rfT,100,5⟩
def sw:List V.AV:=[.int .u64 1,.int .u64 10,.int .u64 100,.int .u64 1000,.int .u64 10000,.int .u64 100000,.int .u64 1000000,.int .u64 10000000,.int .u64 100000000,.int .u64 1000000000,.int .u64 10000000000,.int .u64 100000000000,.int .u64 1000000000000,.int .u64 10000000000000,.int .u64 100000000000000,.int .u64 1000000000000000,.int .u64 10000000000000000,.int .u64 100000000000000000,.int .u64 1000000000000000000,.int .u64 10000000000000000000]
noncomputable def raq:FuncId->Option (List V.AV->V.AH->Option (V.AV×V.AH)):=vo none [(68,some (V.SF 100 5)),(118,some (V.ccX 100)),(120,some (V.L_))]
noncomputable def par:V.Oi where
 P:=Tryz.prog
 fns:=λf=>Tryz.prog.funcs[f]?
 loc:=vo [] [(10,[1,6]),(11,[2,3]),(13,[3,4,6,1000011]),(16,[4,5,8,10,11,12,13,1000059,1000069,1000094]),(17,[2,3]),(19,[4,5,8,9,11,12,13,14]),(20,[2]),(21,[1,10]),(22,[1,9]),(23,[2]),(24,[2]),(27,[2,3]),(30,[2,3,7,9]),(32,[1,2,3,5,7]),(33,[1,2,3]),(35,[2,3]),(36,[2,3,4]),(37,[1,4,6,8,10]),(38,[1,6,10]),(39,[1]),(40,[2]),(41,[1]),(42,[3,5]),(43,[1]),(45,[0]),(46,[2,3,7]),(47,[4,5,7]),(48,[2,3,7]),(49,[1,2]),(50,[2,4]),(51,[2,3,4]),(52,[5,7,8,10,11,1000025,1000029]),(53,[2,3,4,5]),(54,[2]),(55,[5]),(56,[2,3,4]),(57,[5,6,8,10,12,13]),(58,[1]),(59,[2]),(60,[1]),(61,[4,8,9]),(62,[2,3]),(64,[2]),(65,[2]),(67,[1]),(70,[2]),(71,[4]),(81,[3,5,10]),(82,[1]),(83,[2,3,4]),(84,[0]),(85,[2,3,4]),(86,[1,2]),(87,[2,3,4]),(88,[1,2]),(89,[2,3,4]),(90,[2,3,4]),(91,[2,3,4,6]),(92,[2,3,4]),(93,[2,3,4]),(94,[3,4,5,1000057,1000070,1000074]),(95,[4,5,7,8,9]),(96,[2,3,4,5]),(97,[2]),(98,[4]),(99,[2,3]),(101,[4,5,6,7,8]),(102,[2,3,4]),(103,[2,3,4]),(104,[1]),(105,[0]),(106,[0]),(107,[2]),(108,[4]),(109,[4]),(112,[3]),(113,[4,5,6,7,8]),(114,[2,3,4]),(115,[1]),(122,[4]),(123,[6]),(124,[0]),(126,[2,3]),(127,[2]),(130,[4]),(131,[2]),(132,[4]),(133,[0]),(134,[0]),(135,[1,2]),(136,[1,2]),(137,[2,3,4]),(138,[2,3,4]),(139,[2,3,4]),(140,[2,3,4,5]),(141,[2,3,4,5]),(142,[2,3,4]),(143,[1]),(144,[0]),(145,[2]),(146,[4]),(150,[1,2]),(163,[0]),(164,[1,2])]
 keep:=λf=>match Tryz.prog.funcs[f]? with|some fn=>mb fn.ntmps|none=>[]
 G_:=vo false [(16,true),(19,true),(21,true),(22,true),(26,true),(32,true),(33,true),(36,true),(38,true),(41,true),(45,true),(48,true),(52,true),(55,true),(57,true),(58,true),(59,true),(60,true),(61,true),(76,true)]
 ext:=raq
 Na:=vo none [(1,some sw)]
def Na(_:Nat):Option (List UV):=none
theorem qt:tf par Na:=λi row h=>by simp[Na]at h
def bt:Nat->Nat->List Nat
 |0,_=>[]
 |k+1,n=>if n<=1 then[]else n%2::bt k (n/2)
def pc(l:Nat)(f:Func):Code:=rR (bt 99 l) (Jv f)
def qN:(X:Type)->Nat->St->(V.Ex->St->Option X)->Option X:=λX k s K=>none
def qL(k0:Nat)(q:(X:Type)->St->(V.Ex->St->Option X)->Option X)(r:(X:Type)->Nat->St->(V.Ex->St->Option X)->Option X):(X:Type)->Nat->St->(V.Ex->St->Option X)->Option X:=λX k s K=>if k=k0 then q X s K else r X k s K
def eE(j:List Nat)(c:(X:Type)->UV->List UV->UH->(UV->UH->Option X)->Option X)(l:(X:Type)->Nat->St->(V.Ex->St->Option X)->Option X):Env:=⟨λk=>j.contains k,c,l⟩
abbrev LS(C:V.Callee)(e:Env)(rf:Bool)(Ca:List Nat)(n:Nat)(c:Code):Prop:=xd C e.call->od e.loop (vc par C rf Ca n) c
abbrev LL(C:V.Callee)(e:Env)(Ca:List Nat)(f:Func)(p:Nat):Prop:=LS C e true Ca f.ntmps (.loop (pc p f))
abbrev LP(C:V.Callee)(e:Env)(Ca:List Nat)(f:Func)(p:Nat):Prop:=LS C e true Ca f.ntmps (pc p f)
theorem Vi{BF:(X:Type)->Nat->St->(V.Ex->St->Option X)->Option X}{Iq:Code->V.S->Option (V.Ex×V.S)}{l l':List Code}(h:∀c∈l',od BF Iq c)(e:l=l':=by kernel_rfl):∀c∈l,od BF Iq c:=yL e h
abbrev eJ(e:Env)(k:Nat):Env:=⟨uaq e.join k,e.call,e.loop⟩
def rfC(c:Code):Code:= .rangeFunc (rfG c) (Gal c) (rfA c) (rfB c)
def OK(d:Nat)(f:FuncId)(s:Spec):Prop:=∀k,d<=k->Df (V.call par k) f s
def OKY(d:Nat)(s:Spec):Prop:=∀k,d<=k->Hj (V.call par k) s
theorem Jae{d d':Nat}{f:FuncId}{s:Spec}(h:OK d f s)(hd:d<=d'):OK d' f s:=λk hk=>h k (Db hd hk)
theorem Vab{d:Nat}{f:FuncId}{A R:Type}{S:FS A R}{m:A->Option R}(hm:∀a,m a=none):OK d f (S.sp m):=by
 intro k _ X args H K out h;unfold FS.sp at h;obtain⟨u,hu,h⟩:=aa.1 h;rw[hm]at h;cases h
def zy(d:Nat)(l:List (FuncId×Spec)):Prop:=∀k,d<=k->∀p∈l,Df (V.call par k) p.1 p.2
def yy(d:Nat)(l:List (FuncId×Spec)):Prop:=∀k,d<=k->∀p∈l,Hj (V.call par k) p.2
theorem cn{d:Nat}:zy d []:=λ_ _=>laf
theorem cyn{d:Nat}:yy d []:=λ_ _=>Pae
theorem cc{d0 d:Nat}{f:FuncId}{s:Spec}{l:List (FuncId×Spec)}(h:OK d0 f s)(hl:zy d l)(hd:d0<=d:=by omega):zy d ((f,s)::l):=λk hk=>Z9 (h k (Db hd hk)) (hl k hk)
theorem ccy{d0 d:Nat}{f:FuncId}{s:Spec}{l:List (FuncId×Spec)}(h:OKY d0 s)(hl:yy d l)(hd:d0<=d:=by omega):yy d ((f,s)::l):=λk hk=>E9 (h k (Db hd hk)) (hl k hk)
theorem za{d:Nat}{l:List (FuncId×Spec)}(h:zy d l):∀k,d<=k->xd (V.call par k) (Ra l):=λk hk=>rN (h k hk)
theorem kB{d:Nat}{l ly:List (FuncId×Spec)}(h:zy d l)(hy:yy d ly):∀k,d<=k->xd (V.call par k) (yK l ly):=λk hk=>aR (h k hk) (hy k hk)
theorem Las{d:Nat}{env:Env}(Kj:∀k,d<=k->xd (V.call par k) env.call){f:FuncId}{fn:Func}{Ca:List Nat}{sh:Sh}{fz:Bool}
  (hd:(par.fns f,(match fn.body with|some _=>true|none=>false),par.ext f,par.loc f,par.keep f,par.G_ f)=(some fn,true,none,Ca,mb fn.ntmps,fz))
  (hl:∀{C:V.Callee},xd C env.call->∀c'∈loops env.join (Jv fn),od env.loop (vc par C true Ca fn.ntmps) c') {A' R:Type} {S:FS A' R} {m:A'->Option R} {mc:(X:Type)->A'->(R->Option X)->Option X}
  (ue:∀X u K,oM par Na env Ca fn sh fz (S.sk.args u) (S.sk.heap u) K=mc X (S.a u) (λr=>S.o _ (S.a u) r K))
  (nj:∀X a K,mc X a K=(m a).bind K):OK (d+1) f (S.sp m):=by
 intro k hk;obtain⟨k,rfl⟩:∃j,k=j+1:=⟨k-1,by omega⟩;have hc:=Kj k (by omega);simp only[Qe]at hd;obtain⟨h1,h2,h3,h4,h5,h6⟩:=hd;have hb:fn.body=some (Jv fn):=by
  unfold Jv;cases hb:fn.body with
  |none=>rw[hb]at h2;simp at h2
  |some c=>rfl
 exact H_ qt hc h1 hb h3 h4 h5 h6 (hl hc) S ue nj
theorem ial{d:Nat}{env:Env}(Kj:∀k,d<=k->xd (V.call par k) env.call){id:Nat}{r:RFn}(EO:rfT id=r)
  (h1:∀{C:V.Callee},xd C env.call->∀c'∈loops env.join r.assign,od env.loop (vc par C false [] r.n) c') (h2:∀{C:V.Callee},xd C env.call->∀c'∈loops env.join r.body,od env.loop (vc par C false [] r.n) c') {A' R:Type} {S:FS A' R} {m:A'->Option R} {mc:(X:Type)->A'->(R->Option X)->Option X}
  (ue:∀X u K,nR par Na env id r (S.sk.args u) (S.sk.heap u) K=mc X (S.a u) (λr=>S.o _ (S.a u) r K))
  (nj:∀X a K,mc X a K=(m a).bind K):OKY (d+1) (S.sp m):=by
 intro k hk;obtain⟨k,rfl⟩:∃j,k=j+1:=⟨k-1,by omega⟩;have hc:=Kj k (by omega);exact D9 qt hc EO (h1 hc) (h2 hc) S ue nj
theorem nn:(∀{α β:Type}(b:Bool)(x y:Option α)(k:α->Option β),(cond b x y).bind k=cond b (x.bind k) (y.bind k))/\(∀{α β:Type}(b:Bool)(x:Option α)(k:α->Option β),(ask b x).bind k=ask b (x.bind k))/\(∀{α β γ δ:Type}(e:α ⊕ β)(f:α->Option γ)(g:β->Option γ)(k:γ->Option δ),(e.elim f g).bind k=e.elim (λa=>(f a).bind k) (λa=>(g a).bind k))/\(∀{α β γ:Type}(x:Option α)(f:α->Option β)(g:β->Option γ),(x.bind f).bind g=x.bind λa=>(f a).bind g)/\
  (∀{α β:Type}(a:α)(f:α->Option β),(some a).bind f=f a)/\(∀{α β:Type}(f:α->Option β),(none:Option α).bind f=none)/\(∀{α β γ:Type}(f:α->γ)(g:β->γ)(a:α),Sum.elim f g (.inl a)=f a)/\∀{α β γ:Type}(f:α->γ)(g:β->γ)(b:β),Sum.elim f g (.inr b)=g b:=
 ⟨n1,n2,n3,n4,n5,n6,n7,n8⟩
theorem fO{d:Nat}{env:Env}(Kj:∀k,d<=k->xd (V.call par k) env.call){f:FuncId}{fn:Func}{A' R:Type}{S:FS A' R}{m:A'->Option R}{mc:(X:Type)->A'->(R->Option X)->Option X}(nj:∀X a K,mc X a K=(m a).bind K)(Ca:List Nat:=[])(sh:Sh:= .any)(fz:Bool:=false)
 (hl:∀{C:V.Callee},xd C env.call->∀c'∈loops env.join (Jv fn),od env.loop (vc par C true Ca fn.ntmps) c':=by intro _ _;refine yL ?_ fc;kernel_rfl)
 (hd:(par.fns f,(match fn.body with|some _=>true|none=>false),par.ext f,par.loc f,par.keep f,par.G_ f)=(some fn,true,none,Ca,mb fn.ntmps,fz):=by kernel_rfl)
 (ue:∀X u K,oM par Na env Ca fn sh fz (S.sk.args u) (S.sk.heap u) K=mc X (S.a u) (λr=>S.o _ (S.a u) r K):=by intro _ _ _;kernel_rfl):OK (d+1) f (S.sp m):=Las Kj hd hl ue nj
section
variable {C:V.Callee}{rf:Bool}{Ca:List Nat}{n:Nat}
theorem lO{env:Env}(hc:xd C env.call){c:Code}{P T E:Type}(L:LD P T E)(nj:∀Y p t ki ke,L.st Y p t ki ke=(L.m p t).bind (Sum.elim ki ke):=by intros;simp only[LD.m,nn])
 (hl:∀c'∈loops env.join c,od env.loop (vc par C rf Ca n) c':=by refine yL ?_ fc;kernel_rfl)
 (hk:(ql n L.ve&&L.pe.all λq=>ql n q.2)=true:=by kernel_rfl)
 (mj:∀p t,code par Na env Ca n c (L.sk.fill (L.n p t)) (R0 L.ve (tw L.pe))=L.st _ p t (λt=>some (.inl (L.sk.fill (L.n p t)))) (λe=>some (.inr (L.o _ p e Prod.mk))):=by intro _ _;kernel_rfl)
 (bM:∀u,L.n (L.p u) (L.t u)=u:=by intro _;rfl) (ho:∀Z p e K,L.o Z p e K=K (L.o _ p e Prod.mk).1 (L.o _ p e Prod.mk).2:=by intro _ _ e _;first|rfl|(rcases e with e|e<;>rfl)|(rcases e with e|e|e<;>rfl)|(rcases e with e|e|e|e<;>rfl)|exact nomatch e)
 (hq:∀X s K,env.loop X (Wf c) s K=L.q X s K:=by intro _ _ _;kernel_rfl):od env.loop (vc par C rf Ca n) (.loop c):=DV qt hc hl L hk nj mj bM ho hq
theorem pO{env:Env}(k:Nat)(hc:xd C env.call){c:Code}{P E:Type}(L:PD P E)(nj:∀Y p ke,L.st Y p ke=(L.m p).bind ke:=by intros;simp only[PD.m,nn])
 (hl:∀c'∈loops (eJ env k).join c,od (eJ env k).loop (vc par C rf Ca n) c':=by refine yL ?_ fc;kernel_rfl)
 (hk:(ql n L.ve&&L.pe.all λq=>ql n q.2)=true:=by kernel_rfl)
 (mj:∀u,code par Na (eJ env k) Ca n c (L.sk.fill u) (λex s=>(wq (tw L.pe ex) s).bind λs=>some (ex,s))=L.st _ (L.p u) (λe=>some (L.o _ (L.p u) e Prod.mk)):=by intro _;kernel_rfl)
 (ho:∀Z p e K,L.o Z p e K=K (L.o _ p e Prod.mk).1 (L.o _ p e Prod.mk).2:=by intro _ _ e _;first|rfl|(rcases e with e|e<;>rfl)|(rcases e with e|e|e<;>rfl)|(rcases e with e|e|e|e<;>rfl)|exact nomatch e)
 (hq:∀X s K,env.loop X (keyOf c) s K=L.q X s K:=by intro _ _ _;kernel_rfl):od env.loop (vc par C rf Ca n) c:=HC qt (Nn:=eJ env k) hc rfl hl L hk nj mj ho hq
theorem pN{env:Env}(k:Nat)(hc:xd C env.call){c:Code}{P E:Type}(L:PD P E)(nj:∀Y p ke,L.st Y p ke=(L.m p).bind ke:=by intros;simp only[PD.m,nn])(n':P->L.sk.T)
 (hl:∀c'∈loops (eJ env k).join c,od (eJ env k).loop (vc par C rf Ca n) c':=by refine yL ?_ fc;kernel_rfl)
 (hk:(ql n L.ve&&L.pe.all λq=>ql n q.2)=true:=by kernel_rfl)
 (mj:∀p,code par Na (eJ env k) Ca n c (L.sk.fill (n' p)) (λex s=>(wq (tw L.pe ex) s).bind λs=>some (ex,s))=L.st _ p (λe=>some (L.o _ p e Prod.mk)):=by intro _;kernel_rfl)
 (bM:∀u,n' (L.p u)=u:=by intro _;rfl) (ho:∀Z p e K,L.o Z p e K=K (L.o _ p e Prod.mk).1 (L.o _ p e Prod.mk).2:=by intro _ _ e _;first|rfl|(rcases e with e|e<;>rfl)|(rcases e with e|e|e<;>rfl)|(rcases e with e|e|e|e<;>rfl)|exact nomatch e)
 (hq:∀X s K,env.loop X (keyOf c) s K=L.q X s K:=by intro _ _ _;kernel_rfl):od env.loop (vc par C rf Ca n) c:=HC qt (Nn:=eJ env k) hc rfl hl L hk nj (λu=>by have:=mj (L.p u);rwa [bM]at this) ho hq
theorem rO{env:Env}(hc:xd C env.call){id:Nat}{ks:List Nat}{g:Operand}{ps:Array Tmp}{a b:Code}{P E:Type}(L:PD P E)(nj:∀Y p ke,L.st Y p ke=(L.m p).bind ke)(EO:Uv.rf id=⟨n,ps.toList,a,b⟩:=by kernel_rfl)
 (hk:(ql n L.ve&&L.pe.all λq=>ql n q.2)=true:=by kernel_rfl)
 (mj:∀u,eL par Na env id n ks g (L.sk.fill u) (λex s=>(wq (tw L.pe ex) s).bind λs=>some (ex,s))=L.st _ (L.p u) (λe=>some (L.o _ (L.p u) e Prod.mk)):=by intro _;kernel_rfl)
 (ho:∀Z p e K,L.o Z p e K=K (L.o _ p e Prod.mk).1 (L.o _ p e Prod.mk).2:=by intro _ _ e _;first|rfl|(rcases e with e|e<;>rfl)|(rcases e with e|e|e<;>rfl)|(rcases e with e|e|e|e<;>rfl)|exact nomatch e)
 (hq:∀X s K,env.loop X (keyOf (.rangeFunc g ps a b)) s K=L.q X s K:=by intro _ _ _;kernel_rfl):od env.loop (vc par C true Ca n) (.rangeFunc g ps a b):=jO qt hc rfl EO L hk nj mj ho hq
end
abbrev SkS.i:SkS:= .v (.int .i64)
abbrev Sk.i:Sk:= .int .i64
abbrev CT.i:CT:= .int .i64
abbrev KT.i:KT:= .int .i64
abbrev SkS.p(a b:Nat):SkS:= .v (.ptr a b)
def cL:List Sk->Sk
 |[]=> .nil
 |a::l=> .cons a (cL l)
abbrev Va:Sk:= .cons (.lit Vd) (.cons (.int .i64) (.cons (.int .i64) (.cons (.int .i64) (.cons (.lit Ni) (.cons (.lit pn) (.cons (.lit Ni) (.cons (.lit bu) .nil)))))))
abbrev Sc:Sk:= .cons (.int .i64) (.cons (.int .i64) (.cons (.int .i64) (.cons (.int .i64) (.cons (.int .i64) (.cons (.int .i64) (.cons (.int .i64) (.cons (.int .i64) .nil)))))))
abbrev Mb:Sk:= .cons .bool (.cons (.lit Ma) (.cons (.lit Ma) .nil))
abbrev La:Sk:= .cons .bool (.cons (.int .i64) (.cons (.int .i64) .nil))
abbrev GL:Sk:= .cons (.int .u64) (.cons (.int .u64) (.cons .bool .nil))
abbrev Ag:Sk:= .cons (.int .i64) (.cons (.int .i64) .nil)
abbrev Rk:Sk:= .cons (.int .u64) (.cons (.int .u64) .nil)
abbrev R8:Sk:= .cons (.lit Vd) (.cons (.int .i64) (.cons (.int .i64) (.cons (.int .i64) (.cons (.lit Ni) (.cons (.lit pn) (.cons (.lit Ni) (.cons (.lit bu) (.cons (.all 1) (.cons (.all 2) .nil)))))))))
abbrev vO:Sk:= .cons (.lit Vd) (.cons (.int .i64) (.cons (.int .i64) (.cons (.int .i64) (.cons (.lit Ni) (.cons (.lit pn) (.cons (.lit Ni) (.cons (.lit bu) (.cons .bool (.cons (.lit Ma) (.cons (.lit Ma) (.cons (.mp 1) (.cons (.mp 2) (.cons (.mp 3) .nil)))))))))))))
abbrev kr2:Sk:= .cons (.lit Vd) (.cons (.int .i64) (.cons (.int .i64) (.cons (.int .i64) (.cons (.lit Ni) (.cons (.lit pn) (.cons (.lit Ni) (.cons (.lit bu) (.cons .bool (.cons (.lit Ma) (.cons (.lit Ma) (.cons (.mp 1) (.cons (.mp 2) (.cons .ig .nil)))))))))))))
abbrev kr3:Sk:= .cons .bool (.cons (.all 2) (.cons (.all 3) .nil))
abbrev r3{A0 A1 A2 B R:Type}(x:A0×A1×A2×B)(y:R):A0×A1×A2×R:=(x.1,x.2.1,x.2.2.1,y)
abbrev r4{A0 A1 A2 A3 B R:Type}(x:A0×A1×A2×A3×B)(y:R):A0×A1×A2×A3×R:=(x.1,x.2.1,x.2.2.1,x.2.2.2.1,y)
abbrev r5{A0 A1 A2 A3 A4 B R:Type}(x:A0×A1×A2×A3×A4×B)(y:R):A0×A1×A2×A3×A4×R:=(x.1,x.2.1,x.2.2.1,x.2.2.2.1,x.2.2.2.2.1,y)
abbrev r6{A0 A1 A2 A3 A4 A5 B R:Type}(x:A0×A1×A2×A3×A4×A5×B)(y:R):A0×A1×A2×A3×A4×A5×R:=(x.1,x.2.1,x.2.2.1,x.2.2.2.1,x.2.2.2.2.1,x.2.2.2.2.2.1,y)
abbrev r7{A0 A1 A2 A3 A4 A5 A6 B R:Type}(x:A0×A1×A2×A3×A4×A5×A6×B)(y:R):A0×A1×A2×A3×A4×A5×A6×R:=(x.1,x.2.1,x.2.2.1,x.2.2.2.1,x.2.2.2.2.1,x.2.2.2.2.2.1,x.2.2.2.2.2.2.1,y)
abbrev r9{A0 A1 A2 A3 A4 A5 A6 A7 A8 B R:Type}(x:A0×A1×A2×A3×A4×A5×A6×A7×A8×B)(y:R):A0×A1×A2×A3×A4×A5×A6×A7×A8×R:=(x.1,x.2.1,x.2.2.1,x.2.2.2.1,x.2.2.2.2.1,x.2.2.2.2.2.1,x.2.2.2.2.2.2.1,x.2.2.2.2.2.2.2.1,x.2.2.2.2.2.2.2.2.1,y)
abbrev Y0:Type:=Ba×(List Int)×Lb
abbrev Y1:Type:=Ba×(List Ga)
abbrev Y2:Type:=(List Lb)×(List Yk)×(List Ul)×(List Yk)×(List Kd)
abbrev Y3:Type:=(List ga)×(List ga)
abbrev Y4:Type:=(List (Int×Lb))×(List (Int×ga))
abbrev Y5:Type:=Int×Ba×Ga×(List (Int×Lb))×(List (Int×ga))
abbrev Y6:Type:=ga×(List (Int×ga))
abbrev Y7:Type:=Lb×Ba×Ga×(List (Int×Lb))×(List (Int×ga))
abbrev Y8:Type:=Int×ga×ga
abbrev Y9:Type:=Lb×Int×Bool×Ba×Ga×(List (Int×Lb))×(List (Int×ga))×(List ga)×(List ga)
abbrev Y10:Type:=Ba×Ga×Int×Int
abbrev Y11:Type:=Bool×(List ga)×(List ga)
abbrev Y12:Type:=Ga×Bool×(List ga)×(List ga)
abbrev Y13:Type:=Bool×(List ga)×(List ga)×Ga
abbrev Y14:Type:=Ba×Ga×Lb×(List ga)
abbrev Y15:Type:=Ba×Ga×(List ga)×Lb×Int
abbrev Y16:Type:=Ba×(List Bool)×Int×(List Ga)
abbrev Y17:Type:=Ba×(List Ga)×(List Bool)×Int
abbrev _root_.Prod.t3{A0 A1 A2 A3:Type}(x:A0×A1×A2×A3):A3:=x.2.2.2
abbrev _root_.Prod.t4{A0 A1 A2 A3 A4:Type}(x:A0×A1×A2×A3×A4):A4:=x.2.2.2.2
abbrev _root_.Prod.t5{A0 A1 A2 A3 A4 A5:Type}(x:A0×A1×A2×A3×A4×A5):A5:=x.2.2.2.2.2
abbrev _root_.Prod.t6{A0 A1 A2 A3 A4 A5 A6:Type}(x:A0×A1×A2×A3×A4×A5×A6):A6:=x.2.2.2.2.2.2
abbrev _root_.Prod.t7{A0 A1 A2 A3 A4 A5 A6 A7:Type}(x:A0×A1×A2×A3×A4×A5×A6×A7):A7:=x.2.2.2.2.2.2.2
abbrev _root_.Prod.t8{A0 A1 A2 A3 A4 A5 A6 A7 A8:Type}(x:A0×A1×A2×A3×A4×A5×A6×A7×A8):A8:=x.2.2.2.2.2.2.2.2
abbrev _root_.Prod.t9{A0 A1 A2 A3 A4 A5 A6 A7 A8 A9:Type}(x:A0×A1×A2×A3×A4×A5×A6×A7×A8×A9):A9:=x.2.2.2.2.2.2.2.2.2
abbrev _root_.Prod.t10{A0 A1 A2 A3 A4 A5 A6 A7 A8 A9 x9:Type}(x:A0×A1×A2×A3×A4×A5×A6×A7×A8×A9×x9):x9:=x.2.2.2.2.2.2.2.2.2.2
abbrev _root_.Prod.t12{A0 A1 A2 A3 A4 A5 A6 A7 A8 A9 x9 A11 A12:Type}(x:A0×A1×A2×A3×A4×A5×A6×A7×A8×A9×x9×A11×A12):A12:=x.2.2.2.2.2.2.2.2.2.2.2.2
abbrev _root_.Prod.t13{A0 A1 A2 A3 A4 A5 A6 A7 A8 A9 x9 A11 A12 A13:Type}(x:A0×A1×A2×A3×A4×A5×A6×A7×A8×A9×x9×A11×A12×A13):A13:=x.2.2.2.2.2.2.2.2.2.2.2.2.2
abbrev _root_.Prod.t15{A0 A1 A2 A3 A4 A5 A6 A7 A8 A9 x9 A11 A12 A13 A14 A15:Type}(x:A0×A1×A2×A3×A4×A5×A6×A7×A8×A9×x9×A11×A12×A13×A14×A15):A15:=x.2.2.2.2.2.2.2.2.2.2.2.2.2.2.2
abbrev _root_.Prod.t17{A0 A1 A2 A3 A4 A5 A6 A7 A8 A9 x9 A11 A12 A13 A14 A15 A16 A17:Type}(x:A0×A1×A2×A3×A4×A5×A6×A7×A8×A9×x9×A11×A12×A13×A14×A15×A16×A17):A17:=x.2.2.2.2.2.2.2.2.2.2.2.2.2.2.2.2.2
abbrev q3{A B C Z:Type}(x:A×B×C×Z):A×B×C:=(x.1,x.2.1,x.2.2.1)
abbrev q7{A B C D E F G Z:Type}(x:A×B×C×D×E×F×G×Z):A×B×C×D×E×F×G:=(x.1,x.2.1,x.2.2.1,x.2.2.2.1,x.2.2.2.2.1,x.2.2.2.2.2.1,x.2.2.2.2.2.2.1)
abbrev q8{A B C D E F G H Z:Type}(x:A×B×C×D×E×F×G×H×Z):A×B×C×D×E×F×G×H:=(x.1,x.2.1,x.2.2.1,x.2.2.2.1,x.2.2.2.2.1,x.2.2.2.2.2.1,x.2.2.2.2.2.2.1,x.2.2.2.2.2.2.2.1)
end Go.U
namespace Go.U
open Go Go.Proofs
def cam(n:Int):ByteArray:=⟨(Lib.itoa n).toArray⟩
def Tz(a:Int×Int):Option ByteArray:=ask (decide (-9223372036854775808<=a.1)&&decide (a.1<=9223372036854775807)&&decide (a.2=10)) (some (cam a.1))
def CM(a:ByteArray×ByteArray):Option (Int×ByteArray):=ask (decide (a.2.size+a.1.size<=70368744177664)) (some (nt a.1.size,a.2++a.1))
def xad(a:ByteArray):Option ByteArray:=some a
def V6:FS (Int×Int) (ByteArray)where
 sk:=⟨(.cons (.int .i64) (.cons (.int .i64) .nil)),[],0⟩
 a:=λu=>(u.1.1,u.1.2.1)
 o:=λZ a r K=>K (.str r) ⟨[],0⟩
def VJ:Spec:=V6.sp Tz
def zad:FS (ByteArray×ByteArray) (Int×ByteArray)where
 sk:=⟨(.cons (.ptr 0 0) (.cons .str .nil)),[.Un (.all 1),.Fq],0⟩
 a:=λu=>(u.1.2.1,u.2.2.1)
 o:=λZ a r K=>K (.Re [.int .i64 r.1,.zh]) ⟨[.Un (.all 2),.dead,.Fq r.2],0⟩
def D2:Spec:=zad.sp CM
def wad:FS (ByteArray) (ByteArray)where
 sk:=⟨(.cons (.ptr 0 0) .nil),[.Un (.all 1),.Fq],0⟩
 a:=λu=>u.2.2.1
 o:=λZ a r K=>K (.str r) ⟨[.Un (.all 1),.dead],0⟩
def Z1:Spec:=wad.sp xad
theorem tU:OK 1 120 VJ:=λk hk=>by
 obtain⟨j,rfl⟩:∃j,k=j+1:=⟨k-1,by omega⟩;refine J_ (A:=par) (f:=120) rfl λX args H K out h=> ?_
 obtain⟨u,hu,h⟩:=aa.1 (show(V6.sk.take args H).bind _=some out from h);obtain⟨h1,h2⟩:=QK.vf hu;obtain⟨⟨n,b,⟨⟩⟩,⟨⟩⟩:=u;have key:∀n b:Int,(Tz (n,b)).bind (λr=>K (.str r) ⟨[],0⟩)=some out->(-9223372036854775808<=n/\n<=9223372036854775807/\b=10)/\K (.str ⟨(Lib.itoa n).toArray⟩) ⟨[],0⟩=some out:=λn b h'=>by
  simp only[Tz,ask]at h';by_cases e1: -9223372036854775808<=n<;>by_cases e2:n<=9223372036854775807<;>by_cases e3:b=10<;>simp[e1,e2,e3]at h'
  exact⟨⟨e1,e2,e3⟩,h'⟩
 exact⟨n,b,h1.symm,h2.symm,key n b h⟩
theorem yah:OK 1 68 Z1:=λk hk=>by
 obtain⟨j,rfl⟩:∃j,k=j+1:=⟨k-1,by omega⟩;refine zY (A:=par) (f:=68) rfl λX args H K out h=> ?_
 obtain⟨u,hu,h⟩:=aa.1 (show(wad.sk.take args H).bind _=some out from h);obtain⟨h1,h2⟩:=QK.vf hu;obtain⟨⟨⟨⟩,⟨⟩⟩,⟨⟨⟩,s,⟨⟩⟩⟩:=u;exact⟨s,h1.symm,h2.symm,h⟩
theorem lal:Pab par #[98,9]:=⟨98,9,rfl,by kernel_rfl,by kernel_rfl,by kernel_rfl,by kernel_rfl,by kernel_rfl⟩
theorem mal:par.fns 66=some Tryz.f66:=by kernel_rfl
theorem Qae:par.ext 66=none:=by kernel_rfl
theorem H9(k:Nat):I8 par (k+2) 66 #[98,9]:=λH x p q v t H2 h2 h3 hw ha h4 h5 h6=>by
 have DB:V.call par (k+1) (.fn 118 []) [.ptr x 0 0] H=some (.Re [],V.Qa H x (.cells [[.ptr x 0 0,q]] 2 (some (100,2)))):=by
  have e:V.call par (k+1) (.fn 118 []) [.ptr x 0 0] H=V.ccX 100 [.ptr x 0 0] H:=rfl;rw[e];have hx:H.bl[x]?=some (.cells [[p,q]] 2 (some (100,2))):=h2;simp only[V.ccX,hx];rw[if_pos ⟨trivial,hw,by rcases h3 with rfl|rfl<;>simp[V.okp]⟩]
 have ht1:V.elem? par 98=some 5:=by kernel_rfl
 have e97:par.P.underlying 97=some (.pointer 100):=Tryz.underlying97;have nS:x<H.bl.length:=by obtain⟨h,_⟩:=List.getElem?_eq_some_iff.1 h2;exact h
 obtain⟨fd,dM,hfo,hft⟩:∃fd,V.field? par 100 1=some fd/\fd.offset=1/\fd.type=98:=by
  have h:(V.field? par 100 1).map (λfd=>(fd.offset,fd.type))=some (1,98):=by kernel_rfl
  cases h':V.field? par 100 1 with
  |none=>rw[h']at h;cases h
  |some fd=>rw[h']at h;simp at h;exact⟨fd,rfl,h.1,h.2⟩
 have eg:V.size par 98=some 1:=by kernel_rfl
 have aG:par.P.underlying 9=some .string:=Tryz.underlying9;have hb:(V.Qa H x (.cells [[.ptr x 0 0,q]] 2 (some (100,2)))).bl[x]?=some (.cells [[.ptr x 0 0,q]] 2 (some (100,2))):=by rw[Cd,if_pos rfl,if_pos nS]
 have Saf:par.loc 66=[]:=by kernel_rfl
 have Nar:par.G_ 66=false:=by kernel_rfl
 generalize V.Qa H x (.cells [[.ptr x 0 0,q]] 2 (some (100,2)))=H1 at *
 unfold V.call;rw[Qae,mal];have hag:V.isAgg par 98=some false:=by kernel_rfl
 have YZ:v.cells?=some [v]:=by cases v<;>first|rfl|simp[V.AV.dS]at h6
 have reg:∀(call:V.Callee)(Ca:List Nat)(n:Nat)(os:Array Oper)(s:V.S),V.region par call Ca n os false s=V.ops par call Ca n os os.toList s:=λ_ _ _ _ _=>rfl
 simp[Tryz.f66,Saf,Nar,V.code,reg,V.ops,V.Bf,V.op,V.operand,V.val,V.put,V.get,V.Pk,V.Uh,V.jo,V.kj,DB,V.Ql,dM,hfo,hft,eg,V.rh,V.load,V.rowAt,hb,V.part,V.builtin,ha,V.store,h4,h5,hw,h6,YZ,hag,V.gg,aG,V.results,V.result]
theorem Bah:OK 2 66 D2:=λk hk=>by
 obtain⟨j,rfl⟩:∃j,k=j+2:=⟨k-2,by omega⟩;refine F9 (A:=par) (k:=j+1) (f:=66) lal (H9 j) (λX args H K out h=> ?_) (λcs vs H=>by unfold V.call;simp only[List.append_nil]);obtain⟨u,hu,h⟩:=aa.1 (show(zad.sk.take args H).bind _=some out from h);obtain⟨h1,h2⟩:=QK.vf hu;obtain⟨⟨⟨⟩,t,⟨⟩⟩,⟨⟨⟩,s,⟨⟩⟩⟩:=u;have key:∀s t:ByteArray,(CM (t,s)).bind (λr=>K (.Re [.int .i64 r.1,.zh]) ⟨[.Un (.all 2),.dead,.Fq r.2],0⟩)=some out->s.size+t.size<=70368744177664/\K (.Re [.int .i64 t.size,.zh]) ⟨[.Un (.all 2),.dead,.Fq (s++t)],0⟩=some out:=λs t h'=>by
  simp only[CM,ask]at h';by_cases e1:s.size+t.size<=70368744177664<;>simp[e1]at h'
  exact⟨e1,h'⟩
 obtain⟨k1,k2⟩:=key s t h;exact⟨s,t,h1.symm,h2.symm,k1,k2⟩
end Go.U
section
set_option maxRecDepth 100000
namespace Go.U
open Go Go.Proofs
noncomputable section
variable {C:V.Callee}
def nad:FS (Int) (Bool)where
 sk:=⟨(.cons .i .nil),[],0⟩
 a:=λu=>u.1.1
 o:=λZ a r K=>kv K (.bool) [] 0 r ()
def WS{X:Type}(a:Int)(K:Bool->Option X):Option X:=
 cond (decide ((1:Int)<=a))
 (K (decide (a<=(3:Int))))
 (K false)
def XA:=λa=>WS a some
def sah:Spec:=nad.sp XA
noncomputable def rao:Env:=eE [] (Ra []) qN
theorem tah:OK (1) 77 (nad.sp XA):=
 fO (env:=rao) (za cn) (fn:=Tryz.f77) (mc:=@WS) (by intros;simp only[XA,WS,nn])
def mad:FS (Int) (Int)where
 sk:=⟨(.cons .i .nil),[],0⟩
 a:=λu=>u.1.1
 o:=λZ a r K=>kv K .i [] 0 r ()
def zM{X:Type}(a:Int)(K:Int->Option X):Option X:=
 cond (decide (a=(1:Int)))
 (K (-128))
 (cond (decide (a=(2:Int)))
 (K (-32768))
 (K (-2147483648)))
def rq:=λa=>zM a some
def cP:Spec:=mad.sp rq
noncomputable def qao:Env:=eE [] (Ra []) qN
theorem dP:OK (1) 78 (mad.sp rq):=
 fO (env:=qao) (za cn) (fn:=Tryz.f78) (mc:=@zM) (by intros;simp only[rq,zM,nn])
def lad:FS (Int) (Int)where
 sk:=⟨(.cons .i .nil),[],0⟩
 a:=λu=>u.1.1
 o:=λZ a r K=>kv K .i [] 0 r ()
def yM{X:Type}(a:Int)(K:Int->Option X):Option X:=
 (rq a).bind λr1=>
 K (Ka ((Ka ((0:Int)-r1))-(1:Int)))
def Dr:=λa=>yM a some
def O1:Spec:=lad.sp Dr
noncomputable def pao:Env:=eE [] (Ra [(78,cP)]) qN
theorem P1:OK (2) 79 (lad.sp Dr):=
 fO (env:=pao) (za (cc dP cn)) (fn:=Tryz.f79) (mc:=@yM) (by intros;simp only[Dr,yM,nn])
def fae:FS (Ba) (Bool)where
 sk:=⟨(.cons (.agg Va) .nil),[],0⟩
 a:=λu=>(q8 u.1.1)
 o:=λZ a r K=>kv K (.bool) [] 0 r ()
abbrev ov:LD ((List Kd)×Int×Ba) (Int) ((Unit) ⊕ (Unit))where
 sk:=⟨[(1,.loc 0 0),(52,.v (.lit bu)),(53,.i),(54,.i)],[Va],[],0,0⟩
 p:=λu=>(u.1.1,u.1.2.1,u.2.1.1.1,(q7 u.2.1.1.2))
 t:=λu=>u.1.2.2.1
 n:=λp t=>((p.1,p.2.1,t,()),((r7 p.2.2 (p.t9,())),()),())
 st:=λY p t ki ke=>cond (decide (t<p.2.1))
  (ask (V.ua t (fa p.1)) (cond (decide ((gx p.1 (ia t) We).2<(0:Int)))
  (ke (.inl ()))
  (cond (decide ((62:Int)<(gx p.1 (ia t) We).2))
  (ke (.inl ()))
  (cond (!(decide ((zb (gx p.1 (ia t) We).2 2)=(0:Int))))
  (ke (.inl ()))
  (ki ((Ka (t+(1:Int)))))))))
  (ke (.inr (())))
 o:=λZ p e K=>Sum.elim (λe=>so K (.ret) ⟨[(2,.v .bool)],[],[],0,0⟩ ((false,()),(),())) (λe=>so K (.exit 0) ⟨[(1,.loc 0 0)],[Va],[],0,0⟩ ((),((r7 p.2.2 (p.t9,())),()),())) e
 ve:=⟨[1,52,53,54],[],[],[]⟩
 pe:=[(.ret,⟨[2],[],[],[]⟩),(.exit 0,⟨[1],[],[],[]⟩)]
abbrev Up:LD ((List Yk)×Int×Ba) (Int) ((Unit) ⊕ (Unit))where
 sk:=⟨[(1,.loc 0 0),(74,.v (.lit Ni)),(75,.i),(76,.i)],[Va],[],0,0⟩
 p:=λu=>(u.1.1,u.1.2.1,u.2.1.1.1,(q7 u.2.1.1.2))
 t:=λu=>u.1.2.2.1
 n:=λp t=>((p.1,p.2.1,t,()),((r7 p.2.2 (p.t9,())),()),())
 st:=λY p t ki ke=>cond (decide (t<p.2.1))
  (ask (V.ua t (fa p.1)) ((XA (gx p.1 (ia t) Ob).2.1).bind λr1=>
  cond (!r1)
  (ke (.inl ()))
  (cond (decide ((gx p.1 (ia t) Ob).2.2.2<(gx p.1 (ia t) Ob).2.2.1))
  (ke (.inl ()))
  ((rq (gx p.1 (ia t) Ob).2.1).bind λr2=>
  cond (decide ((gx p.1 (ia t) Ob).2.2.1<r2))
  (ke (.inl ()))
  ((Dr (gx p.1 (ia t) Ob).2.1).bind λr3=>
  cond (decide (r3<(gx p.1 (ia t) Ob).2.2.2))
  (ke (.inl ()))
  (ki ((Ka (t+(1:Int))))))))))
  (ke (.inr (())))
 o:=λZ p e K=>Sum.elim (λe=>so K (.ret) ⟨[(2,.v .bool)],[],[],0,0⟩ ((false,()),(),())) (λe=>so K (.exit 2) ⟨[(1,.loc 0 0)],[Va],[],0,0⟩ ((),((r7 p.2.2 (p.t9,())),()),())) e
 ve:=⟨[1,74,75,76],[],[],[]⟩
 pe:=[(.ret,⟨[2],[],[],[]⟩),(.exit 2,⟨[1],[],[],[]⟩)]
abbrev Sp:LD ((List Ul)×Int×Ba) (Int) ((Unit) ⊕ (Unit))where
 sk:=⟨[(1,.loc 0 0),(109,.v (.lit pn)),(110,.i),(111,.i)],[Va],[],0,0⟩
 p:=λu=>(u.1.1,u.1.2.1,u.2.1.1.1,(q7 u.2.1.1.2))
 t:=λu=>u.1.2.2.1
 n:=λp t=>((p.1,p.2.1,t,()),((r7 p.2.2 (p.t9,())),()),())
 st:=λY p t ki ke=>cond (decide (t<p.2.1))
  (ask (V.ua t (fa p.1)) ((XA (gx p.1 (ia t) ud).2.1).bind λr1=>
  cond (!r1)
  (ke (.inl ()))
  ((rq (gx p.1 (ia t) ud).2.1).bind λr2=>
  cond (decide ((gx p.1 (ia t) ud).2.2<r2))
  (ke (.inl ()))
  ((Dr (gx p.1 (ia t) ud).2.1).bind λr3=>
  cond (decide (r3<(gx p.1 (ia t) ud).2.2))
  (ke (.inl ()))
  (ki ((Ka (t+(1:Int)))))))))
  (ke (.inr (())))
 o:=λZ p e K=>Sum.elim (λe=>so K (.ret) ⟨[(2,.v .bool)],[],[],0,0⟩ ((false,()),(),())) (λe=>so K (.exit 4) ⟨[(1,.loc 0 0)],[Va],[],0,0⟩ ((),((r7 p.2.2 (p.t9,())),()),())) e
 ve:=⟨[1,109,110,111],[],[],[]⟩
 pe:=[(.ret,⟨[2],[],[],[]⟩),(.exit 4,⟨[1],[],[],[]⟩)]
abbrev Rp:LD ((List Yk)×Int) (Int) ((Unit) ⊕ (Unit))where
 sk:=⟨[(137,.v (.lit Ni)),(138,.i),(139,.i)],[],[],0,0⟩
 p:=λu=>(u.1.1,u.1.2.1)
 t:=λu=>u.1.2.2.1
 n:=λp t=>((p.1,p.2,t,()),(),())
 st:=λY p t ki ke=>cond (decide (t<p.2))
  (ask (V.ua t (fa p.1)) ((XA (gx p.1 (ia t) Ob).2.1).bind λr1=>
  cond (!r1)
  (ke (.inl ()))
  ((rq (gx p.1 (ia t) Ob).2.1).bind λr2=>
  cond (decide ((gx p.1 (ia t) Ob).2.2.2<r2))
  (ke (.inl ()))
  ((Dr (gx p.1 (ia t) Ob).2.1).bind λr3=>
  cond (decide (r3<(gx p.1 (ia t) Ob).2.2.2))
  (ke (.inl ()))
  (cond (decide ((gx p.1 (ia t) Ob).2.2.1<(1:Int)))
  (ke (.inl ()))
  (cond (decide ((256:Int)<(gx p.1 (ia t) Ob).2.2.1))
  (ke (.inl ()))
  (ki ((Ka (t+(1:Int)))))))))))
  (ke (.inr (())))
 o:=λZ p e K=>Sum.elim (λe=>so K (.ret) ⟨[(2,.v .bool)],[],[],0,0⟩ ((false,()),(),())) (λe=>so K (.exit 6) ⟨[],[],[],0,0⟩ ((),(),())) e
 ve:=⟨[137,138,139],[],[],[]⟩
 pe:=[(.ret,⟨[2],[],[],[]⟩),(.exit 6,⟨[],[],[],[]⟩)]
def MT{X:Type}(a:Ba)(K:Bool->Option X):Option X:=
 cond (decide ((32:Int)<(nt (fa a.2.2.2.2.1))))
 (K false)
 (cond (decide ((64:Int)<(nt (fa a.2.2.2.2.2.1))))
 (K false)
 (cond (decide ((16:Int)<(nt (fa a.2.2.2.2.2.2.1))))
 (K false)
 (cond (decide (a.2.2.2.1<(0:Int)))
 (K false)
 (cond (decide ((2147483647:Int)<a.2.2.2.1))
 (K false)
 (cond (decide ((nt (fa a.2.2.2.2.2.2.2))<(1:Int)))
 (K false)
 (ask (V.ua 0 (fa a.2.2.2.2.2.2.2)) (cond (!((decide ((gx a.2.2.2.2.2.2.2 0 We).1=(0:Int)))&&((decide ((gx a.2.2.2.2.2.2.2 0 We).2=(0:Int)))&&true)))
 (K false)
 ((Ua (ov.m (a.2.2.2.2.2.2.2,(nt (fa a.2.2.2.2.2.2.2)),a)) 0).bind λe1=>
 Sum.elim (λe2=>K false)
 (λe3=>(Ua (Up.m (a.2.2.2.2.1,(nt (fa a.2.2.2.2.1)),a)) 0).bind λe4=>
 Sum.elim (λe5=>K false)
 (λe6=>(Ua (Sp.m (a.2.2.2.2.2.1,(nt (fa a.2.2.2.2.2.1)),a)) 0).bind λe7=>
 Sum.elim (λe8=>K false)
 (λe9=>(Ua (Rp.m (a.2.2.2.2.2.2.1,(nt (fa a.2.2.2.2.2.2.1)))) 0).bind λCu=>
 Sum.elim (λCU=>K false)
 (λlY=>K true) Cu) e7) e4) e1))))))))
def uH:=λa=>MT a some
def vai:Spec:=fae.sp uH
noncomputable def JM:Env:=eE [] (Ra [(77,sah),(78,cP),(79,O1)]) (qL 4 ov.q (qL 10 Up.q (qL 16 Sp.q (qL 22 Rp.q qN))))
theorem UW:LL C JM [1,4,6,8,10] Tryz.f37 75:=λhc=>
 lO hc ov
theorem xP:LL C JM [1,4,6,8,10] Tryz.f37 151:=λhc=>
 lO hc Up
theorem wP:LL C JM [1,4,6,8,10] Tryz.f37 303:=λhc=>
 lO hc Sp
theorem vP:LL C JM [1,4,6,8,10] Tryz.f37 607:=λhc=>
 lO hc Rp
theorem wai:OK (3) 37 (fae.sp uH):=
 fO (env:=JM) (za (cc tah (cc dP (cc P1 cn)))) (fn:=Tryz.f37) (mc:=@MT) (by intros;simp only[uH,MT,nn]) (Ca:=[1,4,6,8,10]) (hl:=λhc=>(Vi (Ta (UW hc) (Ta (xP hc) (Ta (wP hc) (Ta (vP hc) fc))))))
def eae:FS (Ba) ((List Int)×Bool)where
 sk:=⟨(.cons (.agg Va) .nil),[],0⟩
 a:=λu=>(q8 u.1.1)
 o:=λZ a r K=>kv K (.Re (cL [(.lit .i),.bool])) [] 0 (r.1,r.2,()) ()
abbrev uz:LD ((List Lb)×Int×Ba) (Int×Int) (Int)where
 sk:=⟨[(1,.loc 0 0),(4,.i),(13,.v (.lit Vd)),(14,.i),(15,.i)],[Va],[],0,0⟩
 p:=λu=>(u.1.2.1,u.1.2.2.1,u.2.1.1.1,(q7 u.2.1.1.2))
 t:=λu=>(u.1.1,u.1.t3.1)
 n:=λp t=>((t.1,p.1,p.2.1,t.2,()),((r7 p.2.2 (p.t9,())),()),())
 st:=λY p t ki ke=>cond (decide (t.2<p.2.1))
  (ask (V.ua t.2 (fa p.1)) (cond (decide ((1:Int)<=(gx p.1 (ia t.2) Pb).1))
  (cond (decide ((gx p.1 (ia t.2) Pb).1<=(12:Int)))
  (ki ((Ka (t.1+(1:Int))),(Ka (t.2+(1:Int)))))
  (ki (t.1,(Ka (t.2+(1:Int))))))
  (ki (t.1,(Ka (t.2+(1:Int)))))))
  (ke (t.1))
 o:=λZ p e K=>so K (.exit 0) ⟨[(1,.loc 0 0),(4,.i)],[Va],[],0,0⟩ ((e,()),((r7 p.2.2 (p.t9,())),()),())
 ve:=⟨[1,4,13,14,15],[],[],[]⟩
 pe:=[(.exit 0,⟨[1,4],[],[],[]⟩)]
abbrev Gt:LD (Int×Int×Ba) (Int×(List Int)) ((List Int))where
 sk:=⟨[(1,.loc 0 0),(4,.i),(7,.v (.all 0)),(41,.i),(42,.i)],[Va],[.cells .i],0,0⟩
 p:=λu=>(u.1.1,u.1.2.2.1,u.2.1.1.1,(q7 u.2.1.1.2))
 t:=λu=>(u.1.t3.1,u.2.2.1)
 n:=λp t=>((p.1,(),p.2.1,t.1,()),((r7 p.2.2 (p.t9,())),()),t.2,())
 st:=λY p t ki ke=>cond (decide (t.1<p.2.1))
  (ask (V.ua t.1 (fa t.2)) (ki ((Ka (t.1+(1:Int))),(Wb t.2 (ia t.1) (-1)))))
  (ke (t.2))
 o:=λZ p e K=>so K (.exit 2) ⟨[(1,.loc 0 0),(4,.i),(7,.v (.all 0))],[Va],[.cells .i],0,0⟩ ((p.1,(),()),((r7 p.2.2 (p.t9,())),()),e,())
 ve:=⟨[1,4,7,41,42],[],[],[]⟩
 pe:=[(.exit 2,⟨[1,4,7],[],[],[]⟩)]
abbrev Ft:LD (Int×(List Lb)×Int×Ba) (Int×(List Int)) ((Unit) ⊕ ((List Int)))where
 sk:=⟨[(1,.loc 0 0),(4,.i),(7,.v (.all 0)),(50,.v (.lit Vd)),(51,.i),(52,.i)],[Va],[.cells .i],0,0⟩
 p:=λu=>(u.1.1,u.1.2.2.1,u.1.t3.1,u.2.1.1.1,(q7 u.2.1.1.2))
 t:=λu=>(u.1.t4.1,u.2.2.1)
 n:=λp t=>((p.1,(),p.2.1,p.2.2.1,t.1,()),((r7 p.t3 (p.t10,())),()),t.2,())
 st:=λY p t ki ke=>let zB:=gx p.2.1 (ia t.1) Pb
  let zA:=Ka (zB.2.1-(nt (fa p.2.2.2.2.2.2.2.2.1)))
  let zC:=Ka (t.1+(1:Int))
  cond (decide (t.1<p.2.2.1))
  (ask (V.ua t.1 (fa p.2.1)) (cond (decide (zB.1<(1:Int)))
  (ki (zC,t.2))
  (cond (decide ((12:Int)<zB.1))
  (ki (zC,t.2))
  (cond (decide (zA<(0:Int)))
  (ke (.inl ()))
  (cond (decide (p.1<=zA))
  (ke (.inl ()))
  (ask (V.ua zA (fa t.2)) (cond (decide ((0:Int)<=(gx t.2 (ia zA) (0:Int))))
  (ke (.inl ()))
  (ask (V.ua zA (fa t.2)) (ki (zC,(Wb t.2 (ia zA) t.1)))))))))))
  (ke (.inr (t.2)))
 o:=λZ p e K=>Sum.elim (λe=>so K (.ret) ⟨[(2,.v .Xa),(3,.v .bool)],[],[],0,0⟩ (((),false,()),(),())) (λe=>so K (.exit 4) ⟨[(7,.v (.all 0))],[],[.cells .i],0,0⟩ (((),()),(),e,())) e
 ve:=⟨[1,4,7,50,51,52],[],[],[]⟩
 pe:=[(.ret,⟨[2,3],[],[],[]⟩),(.exit 4,⟨[7],[],[],[]⟩)]
def JT{X:Type}(a:Ba)(K:(List Int)×Bool->Option X):Option X:=
 (Ua (uz.m (a.1,(nt (fa a.1)),a)) (0,0)).bind λe1=>
 cond (!(decide (a.2.2.1=(Ka ((nt (fa a.2.2.2.2.2.1))+e1)))))
 (K ([],false))
 (ask (decide (0<=e1)&&decide (e1<=e1)&&decide (8 * e1<=70368744177664)&&decide (e1<9223372036854775808)) ((Ua (Gt.m (e1,(nt (fa (fb (ia e1) (0:Int)))),a)) (0,(fb (ia e1) (0:Int)))).bind λe2=>
 (Ua (Ft.m (e1,a.1,(nt (fa a.1)),a)) (0,e2)).bind λe3=>
 Sum.elim (λe4=>K ([],false))
 (λe5=>K (e5,true)) e3))
def tH:=λa=>JT a some
def sai:Spec:=eae.sp tH
noncomputable def IT:Env:=eE [] (Ra []) (qL 3 uz.q (qL 12 Gt.q (qL 17 Ft.q qN)))
theorem QW:LL C IT [1,6,10] Tryz.f38 75:=λhc=>
 lO hc uz
theorem tP:LL C IT [1,6,10] Tryz.f38 607:=λhc=>
 lO hc Gt
theorem sP:LL C IT [1,6,10] Tryz.f38 1215:=λhc=>
 lO hc Ft
theorem tai:OK (1) 38 (eae.sp tH):=
 fO (env:=IT) (za cn) (fn:=Tryz.f38) (mc:=@JT) (by intros;simp only[tH,JT,nn]) (Ca:=[1,6,10]) (sh:=(.Re [(.lit (.int .i64)),.any])) (fz:=true) (hl:=λhc=>(Vi (Ta (QW hc) (Ta (tP hc) (Ta (sP hc) fc)))))
def dae:FS (Lb) (Bool)where
 sk:=⟨(.cons (.agg Sc) .nil),[],0⟩
 a:=λu=>(q8 u.1.1)
 o:=λZ a r K=>kv K (.bool) [] 0 r ()
abbrev aE:PD (Lb) (Bool)where
 sk:=⟨[(1,.loc 0 0)],[Sc],[],0,0⟩
 p:=λu=>(q8 u.2.1.1)
 st:=λY p ke=>cond (decide (p.1=(1:Int)))
  (ke (true))
  (cond (decide (p.1=(16:Int)))
  (ke (true))
  (ke ((decide ((17:Int)<=p.1)))))
 o:=λZ p e K=>so K (.normal) ⟨[(1,.loc 0 0),(3,.v .bool)],[Sc],[],0,0⟩ ((e,()),((r7 p (p.t7,())),()),())
 ve:=⟨[1],[],[],[]⟩
 pe:=[(.normal,⟨[1,3],[],[],[]⟩)]
abbrev ZD:PD (Bool×Lb) (Bool)where
 sk:=⟨[(1,.loc 0 0),(3,.v .bool)],[Sc],[],0,0⟩
 p:=λu=>(u.1.1,u.2.1.1.1,(q7 u.2.1.1.2))
 st:=λY p ke=>cond p.1
  (ke (true))
  (cond (decide (p.2.1=(2:Int)))
  (ke (true))
  (cond (decide (p.2.1=(3:Int)))
  (ke (true))
  (cond (decide (p.2.1=(12:Int)))
  (ke (true))
  (ke ((decide (p.2.1=(13:Int))))))))
 o:=λZ p e K=>so K (.normal) ⟨[(1,.loc 0 0),(3,.v .bool),(4,.v .bool)],[Sc],[],0,0⟩ ((p.1,e,()),((r7 p.2 (p.t8,())),()),())
 ve:=⟨[1,3],[],[],[]⟩
 pe:=[(.normal,⟨[1,3,4],[],[],[]⟩)]
abbrev YD:PD (Bool×Bool×Lb) (Bool)where
 sk:=⟨[(1,.loc 0 0),(3,.v .bool),(4,.v .bool)],[Sc],[],0,0⟩
 p:=λu=>(u.1.1,u.1.2.1,u.2.1.1.1,(q7 u.2.1.1.2))
 st:=λY p ke=>cond (decide (p.2.2.1=(15:Int)))
  (ke (true))
  (cond (decide (p.2.2.1=(16:Int)))
  (ke (true))
  (ke ((decide ((17:Int)<=p.2.2.1)))))
 o:=λZ p e K=>so K (.normal) ⟨[(1,.loc 0 0),(3,.v .bool),(4,.v .bool),(5,.v .bool)],[Sc],[],0,0⟩ ((p.1,p.2.1,e,()),((r7 p.2.2 (p.t9,())),()),())
 ve:=⟨[1,3,4],[],[],[]⟩
 pe:=[(.normal,⟨[1,3,4,5],[],[],[]⟩)]
abbrev XD:PD (Bool×Bool×Bool×Lb) (Bool)where
 sk:=⟨[(1,.loc 0 0),(3,.v .bool),(4,.v .bool),(5,.v .bool)],[Sc],[],0,0⟩
 p:=λu=>(r3 u.1 (q8 u.2.1.1))
 st:=λY p ke=>cond (!(decide (p.2.2.2.1=(1:Int))))
  (ke ((!(decide (p.2.2.2.1=(15:Int))))))
  (ke (false))
 o:=λZ p e K=>so K (.normal) ⟨[(1,.loc 0 0),(3,.v .bool),(4,.v .bool),(5,.v .bool),(6,.v .bool)],[Sc],[],0,0⟩ ((r3 p (e,())),((r7 p.t3 (p.t10,())),()),())
 ve:=⟨[1,3,4,5],[],[],[]⟩
 pe:=[(.normal,⟨[1,3,4,5,6],[],[],[]⟩)]
abbrev WD:PD (Bool×Bool×Bool×Bool×Lb) (Bool)where
 sk:=⟨[(1,.loc 0 0),(3,.v .bool),(4,.v .bool),(5,.v .bool),(6,.v .bool)],[Sc],[],0,0⟩
 p:=λu=>(r4 u.1 (q8 u.2.1.1))
 st:=λY p ke=>let zA:=(decide (p.2.2.2.2.2.2.2.2.1=(0:Int)))
  let zB:=decide (p.2.2.2.2.2.1=(0:Int))
  cond (!p.1)
  (cond (!p.2.1)
  (cond (!p.2.2.1)
  (cond (!p.2.2.2.1)
  (ke (true))
  (ke zA))
  (cond zB
  (cond (!p.2.2.2.1)
  (ke (true))
  (ke zA))
  (ke (false))))
  (cond (decide (p.2.2.2.2.2.2.2.1=(0:Int)))
  (cond (!p.2.2.1)
  (cond (!p.2.2.2.1)
  (ke (true))
  (ke zA))
  (cond zB
  (cond (!p.2.2.2.1)
  (ke (true))
  (ke zA))
  (ke (false))))
  (ke (false))))
  (cond (decide (p.2.2.2.2.2.2.1=(0:Int)))
  (cond (!p.2.1)
  (cond (!p.2.2.1)
  (cond (!p.2.2.2.1)
  (ke (true))
  (ke zA))
  (cond zB
  (cond (!p.2.2.2.1)
  (ke (true))
  (ke zA))
  (ke (false))))
  (cond (decide (p.2.2.2.2.2.2.2.1=(0:Int)))
  (cond (!p.2.2.1)
  (cond (!p.2.2.2.1)
  (ke (true))
  (ke zA))
  (cond zB
  (cond (!p.2.2.2.1)
  (ke (true))
  (ke zA))
  (ke (false))))
  (ke (false))))
  (ke (false)))
 o:=λZ p e K=>so K (.normal) ⟨[(2,.v .bool)],[],[],0,0⟩ ((e,()),(),())
 ve:=⟨[1,3,4,5,6],[],[],[]⟩
 pe:=[(.normal,⟨[2],[],[],[]⟩)]
def HT{X:Type}(a:Lb)(K:Bool->Option X):Option X:=
 (aE.m a).bind λe1=>
 (ZD.m (e1,a)).bind λe2=>
 (YD.m (e1,e2,a)).bind λe3=>
 (XD.m (e1,e2,e3,a)).bind λe4=>
 (WD.m (e1,e2,e3,e4,a)).bind λe5=>
 K e5
def bE:=λa=>HT a some
def qai:Spec:=dae.sp bE
noncomputable def sH:Env:=eE [2000001,2000002,2000003,2000004,2000005] (Ra []) (qL 2000001 aE.q (qL 2000002 ZD.q (qL 2000003 YD.q (qL 2000004 XD.q (qL 2000005 WD.q qN)))))
theorem NW:LP C sH [1] Tryz.f39 5:=λhc=>
 pO 2000001 hc aE
theorem MW:LP C sH [1] Tryz.f39 11:=λhc=>
 pO 2000002 hc ZD
theorem LW:LP C sH [1] Tryz.f39 23:=λhc=>
 pO 2000003 hc YD
theorem KW:LP C sH [1] Tryz.f39 47:=λhc=>
 pO 2000004 hc XD
theorem JW:LP C sH [1] Tryz.f39 95:=λhc=>
 pO 2000005 hc WD
theorem rai:OK (1) 39 (dae.sp bE):=
 fO (env:=sH) (za cn) (fn:=Tryz.f39) (mc:=@HT) (by intros;simp only[bE,HT,nn]) (Ca:=[1]) (hl:=λhc=>(Vi (Ta (NW hc) (Ta (MW hc) (Ta (LW hc) (Ta (KW hc) (Ta (JW hc) fc)))))))
def kad:FS (Int×Int) (Bool)where
 sk:=⟨Ag,[],0⟩
 a:=λu=>(u.1.1,u.1.2.1)
 o:=λZ a r K=>kv K (.bool) [] 0 r ()
def TS{X:Type}(a:Int×Int)(K:Bool->Option X):Option X:=
 cond (decide ((0:Int)<=a.1))
 (K (decide (a.1<a.2)))
 (K false)
def WA:=λa=>TS a some
def pah:Spec:=kad.sp WA
noncomputable def oao:Env:=eE [] (Ra []) qN
theorem qah:OK (1) 80 (kad.sp WA):=
 fO (env:=oao) (za cn) (fn:=Tryz.f80) (mc:=@TS) (by intros;simp only[WA,TS,nn])
def cae:FS (Lb×Int) (Bool)where
 sk:=⟨(cL [(.agg Sc),.i]),[],0⟩
 a:=λu=>((q8 u.1.1),u.1.2.1)
 o:=λZ a r K=>kv K (.bool) [] 0 r ()
def FT{X:Type}(a:Lb×Int)(K:Bool->Option X):Option X:=
 cond (decide (a.1.1=(15:Int)))
 ((WA (a.1.2.2.2.2.2.2.1,a.2)).bind λr1=>
 cond r1
 ((WA (a.1.2.2.2.2.2.2.2,a.2)).bind λr2=>
 K r2)
 (K false))
 (cond (decide (a.1.1=(21:Int)))
 (cond (decide (a.1.2.2.2.2.2.2.1=(-1:Int)))
 (K (decide (a.1.2.2.2.2.2.2.2=(-1:Int))))
 (K false))
 ((WA (a.1.2.2.2.2.2.2.1,a.2)).bind λr3=>
 cond r3
 (K (decide (a.1.2.2.2.2.2.2.2=(-1:Int))))
 (K false)))
def VD:=λa=>FT a some
def nai:Spec:=cae.sp VD
noncomputable def Mao:Env:=eE [] (Ra [(80,pah)]) qN
theorem oai:OK (2) 40 (cae.sp VD):=
 fO (env:=Mao) (za (cc qah cn)) (fn:=Tryz.f40) (mc:=@FT) (by intros;simp only[VD,FT,nn]) (Ca:=[2])
def bae:FS (Lb) ((List Int))where
 sk:=⟨(.cons (.agg Sc) .nil),[],0⟩
 a:=λu=>(q8 u.1.1)
 o:=λZ a r K=>kv K (.lit .i) [] 0 r ()
def ET{X:Type}(a:Lb)(K:(List Int)->Option X):Option X:=
 cond (decide (a.1=(2:Int)))
 (K ([a.2.2.1]:List Int))
 (cond (decide (a.1=(3:Int)))
 (K ([a.2.2.1]:List Int))
 (cond (decide (a.1=(13:Int)))
 (K ([a.2.2.1]:List Int))
 (cond (decide (a.1=(4:Int)))
 (K ([a.2.2.1,a.2.2.2.1]:List Int))
 (cond (decide (a.1=(5:Int)))
 (K ([a.2.2.1,a.2.2.2.1]:List Int))
 (cond (decide (a.1=(6:Int)))
 (K ([a.2.2.1,a.2.2.2.1]:List Int))
 (cond (decide (a.1=(7:Int)))
 (K ([a.2.2.1,a.2.2.2.1]:List Int))
 (cond (decide (a.1=(8:Int)))
 (K ([a.2.2.1,a.2.2.2.1]:List Int))
 (cond (decide (a.1=(9:Int)))
 (K ([a.2.2.1,a.2.2.2.1]:List Int))
 (cond (decide (a.1=(10:Int)))
 (K ([a.2.2.1,a.2.2.2.1]:List Int))
 (cond (decide (a.1=(15:Int)))
 (K ([a.2.2.1,a.2.2.2.1]:List Int))
 (cond (decide (a.1=(11:Int)))
 (K ([a.2.2.2.1]:List Int))
 (cond (decide (a.1=(14:Int)))
 (K ([a.2.1,a.2.2.2.1]:List Int))
 (K [])))))))))))))
def rH:=λa=>ET a some
def kai:Spec:=bae.sp rH
noncomputable def Lao:Env:=eE [] (Ra []) qN
theorem lai:OK (1) 41 (bae.sp rH):=
 fO (env:=Lao) (za cn) (fn:=Tryz.f41) (mc:=@ET) (by intros;simp only[rH,ET,nn]) (Ca:=[1]) (sh:=(.lit (.int .i64))) (fz:=true)
def jad:FS (Y0) (Int×Bool)where
 sk:=⟨(cL [(.agg Va),(.lit .i),(.agg Sc)]),[],0⟩
 a:=λu=>((q8 u.1.1),u.1.2.1,u.1.2.2.1.1,(q7 u.1.2.2.1.2))
 o:=λZ a r K=>kv K (.Re (cL [.i,.bool])) [] 0 (r.1,r.2,()) ()
def SS{X:Type}(a:Y0)(K:(Int×Bool)->Option X):Option X:=
 let zD:=gx a.1.2.2.2.2.2.1 (ia a.2.2.2.1) ud
 let zB:=(2,(!(decide (zD.2.1=(3:Int)))))
 let zE:=fa a.1.2.2.2.2.2.1
 let zC:=Ka (a.2.2.2.2.1-(nt zE))
 let zA:=gx a.1.1 (ia (gx a.2.1 (ia zC) (0:Int))) Pb
 let zF:=V.ua zA.2.2.1 (fa a.1.2.2.2.2.1)
 let zG:=gx a.1.2.2.2.2.1 (ia zA.2.2.1) Ob
 cond (decide (a.2.2.1=(2:Int)))
 (K (2,true))
 (cond (decide (a.2.2.1=(3:Int)))
 (K (2,true))
 (cond (decide (a.2.2.1=(4:Int)))
 (K (2,true))
 (cond (decide (a.2.2.1=(5:Int)))
 (K (2,true))
 (cond (decide (a.2.2.1=(6:Int)))
 (K (2,true))
 (cond (decide (a.2.2.1=(7:Int)))
 (K (12,true))
 (cond (decide (a.2.2.1=(8:Int)))
 (K (4,true))
 (cond (decide (a.2.2.1=(11:Int)))
 (K (16,true))
 (cond (decide (a.2.2.1=(14:Int)))
 (ask (V.ua a.2.2.2.2.1 (fa a.1.2.2.2.2.2.2.1)) (cond (decide ((gx a.1.2.2.2.2.2.2.1 (ia a.2.2.2.2.1) Ob).2.1=(3:Int)))
 (K (16,true))
 (K (18,true))))
 (cond (decide (a.2.2.1=(21:Int)))
 (K (32,true))
 (cond (decide (a.2.2.1=(13:Int)))
 (ask (V.ua a.2.2.2.1 zE) (cond (decide ((nt zE)<=a.2.2.2.2.1))
 (ask (V.ua zC (fa a.2.1)) (ask (V.ua (gx a.2.1 (ia zC) (0:Int)) (fa a.1.1)) (cond (decide (zA.1=(12:Int)))
 (ask zF ((rq zD.2.1).bind λr1=>
 cond (decide (r1<=zG.2.2.1))
 (ask zF ((Dr zD.2.1).bind λr2=>
 cond (decide (zG.2.2.2<=r2))
 (K (2,false))
 (K zB)))
 (K zB)))
 (K zB))))
 (K zB)))
 (K (0,false))))))))))))
def jH:=λa=>SS a some
def nah:Spec:=jad.sp jH
noncomputable def nao:Env:=eE [] (Ra [(78,cP),(79,O1)]) qN
theorem oah:OK (3) 81 (jad.sp jH):=
 fO (env:=nao) (za (cc dP (cc P1 cn))) (fn:=Tryz.f81) (mc:=@SS) (by intros;simp only[jH,SS,nn]) (Ca:=[3,5,10])
def aae:FS (Y0) (Bool)where
 sk:=⟨(cL [(.agg Va),(.lit .i),(.agg Sc)]),[],0⟩
 a:=λu=>((q8 u.1.1),u.1.2.1,u.1.2.2.1.1,(q7 u.1.2.2.1.2))
 o:=λZ a r K=>kv K (.bool) [] 0 r ()
def DT{X:Type}(a:Y0)(K:Bool->Option X):Option X:=
 (jH (a.1,a.2.1,a.2.2)).bind λr1=>
 cond (decide (a.2.2.2.2.2.2.2.1=(0:Int)))
 (K (!r1.2))
 (cond (!(decide (r1.1=(0:Int))))
 (cond (decide ((0:Int)<a.2.2.2.2.2.2.2.1))
 (cond (decide (a.2.2.2.2.2.2.2.1<(nt (fa a.1.2.2.2.2.2.2.2))))
 (ask (V.ua a.2.2.2.2.2.2.2.1 (fa a.1.2.2.2.2.2.2.2)) (K (decide ((Ic .i64 (gx a.1.2.2.2.2.2.2.2 (ia a.2.2.2.2.2.2.2.1) We).2 r1.1)=r1.1))))
 (K false))
 (K false))
 (K false))
def yx:=λa=>DT a some
def iai:Spec:=aae.sp yx
noncomputable def Kao:Env:=eE [] (Ra [(81,nah)]) qN
theorem jai:OK (4) 42 (aae.sp yx):=
 fO (env:=Kao) (za (cc oah cn)) (fn:=Tryz.f42) (mc:=@DT) (by intros;simp only[yx,DT,nn]) (Ca:=[3,5])
def Zad:FS (Ba) (Bool)where
 sk:=⟨(.cons (.agg Va) .nil),[],0⟩
 a:=λu=>(q8 u.1.1)
 o:=λZ a r K=>kv K (.bool) [] 0 r ()
abbrev Et:LD (Bool×Int×Kd×Ba×(List Bool)) (Bool×Int) (Bool)where
 sk:=⟨[(1,.loc 0 0),(3,.v (.all 0)),(4,.v .bool),(5,.i),(6,.v .bool),(49,.v (.agg Ag)),(50,.i)],[Va],[.cells .bool],0,0⟩
 p:=λu=>(u.1.2.1,u.1.2.2.1,(u.1.t4.1.1,u.1.t4.1.2.1),(q8 u.2.1.1),u.2.2.1)
 t:=λu=>(u.1.t3.1,u.1.t5.1)
 n:=λp t=>(((),p.1,p.2.1,t.1,(p.2.2.1.1,p.2.2.1.2,()),t.2,()),((r7 p.t3.1 (p.t3.1.t7,())),()),p.t4,())
 st:=λY p t ki ke=>cond (decide (t.2<(2:Int)))
  (cond (decide (t.2=(0:Int)))
  (cond t.1
  (cond (decide (p.2.2.1.1<(0:Int)))
  (ki (true,(Ka (t.2+(1:Int)))))
  (ask (V.ua p.2.2.1.1 (fa p.2.2.2.2)) (ki ((gx p.2.2.2.2 (ia p.2.2.1.1) false),(Ka (t.2+(1:Int)))))))
  (ki (false,(Ka (t.2+(1:Int))))))
  (cond (decide (t.2=(1:Int)))
  (cond t.1
  (cond (decide (p.2.2.1.2<(0:Int)))
  (ki (true,(Ka (t.2+(1:Int)))))
  (ask (V.ua p.2.2.1.2 (fa p.2.2.2.2)) (ki ((gx p.2.2.2.2 (ia p.2.2.1.2) false),(Ka (t.2+(1:Int)))))))
  (ki (false,(Ka (t.2+(1:Int))))))
  (none)))
  (ke (t.1))
 o:=λZ p e K=>so K (.exit 4) ⟨[(1,.loc 0 0),(3,.v (.all 0)),(4,.v .bool),(5,.i),(6,.v .bool)],[Va],[.cells .bool],0,0⟩ (((),p.1,p.2.1,e,()),((r7 p.t3.1 (p.t3.1.t7,())),()),p.t4,())
 ve:=⟨[1,3,4,5,6,49,50],[],[],[]⟩
 pe:=[(.exit 4,⟨[1,3,4,5,6],[],[],[]⟩)]
abbrev Qp:LD (Ba) (Bool×Int×(List Bool)) (Bool×(List Bool))where
 sk:=⟨[(1,.loc 0 0),(3,.v (.all 0)),(4,.v .bool),(5,.i)],[Va],[.cells .bool],0,0⟩
 p:=λu=>(q8 u.2.1.1)
 t:=λu=>(u.1.2.1,u.1.2.2.1,u.2.2.1)
 n:=λp t=>(((),t.1,t.2.1,()),((r7 p (p.t7,())),()),t.2.2,())
 st:=λY p t ki ke=>let zB:=V.ua t.2.1 (fa t.2.2)
  let zC:=V.ua t.2.1 (fa p.1)
  let zD:=gx p.1 (ia t.2.1) Pb
  let zE:=Ka (t.2.1-(1:Int))
  let zA:=(true,zE,(Wb t.2.2 (ia t.2.1) true))
  cond (decide ((0:Int)<=t.2.1))
  (ask zB (cond (gx t.2.2 (ia t.2.1) false)
  (ki (t.1,zE,t.2.2))
  (ask zC (cond (!(decide (zD.1=(17:Int))))
  (ask zC (cond (!(decide (zD.1=(20:Int))))
  (ask zC ((Ua (Et.m (t.1,t.2.1,zD.2.2.2.2.2.2,p,t.2.2)) (true,0)).bind λe1=>
  cond e1
  (ask zB (ki zA))
  (ki (t.1,zE,t.2.2))))
  (ask zB (ki zA))))
  (ask zB (ki zA))))))
  (ke ((t.1,t.2.2)))
 o:=λZ p e K=>so K (.exit 2) ⟨[(1,.loc 0 0),(3,.v (.all 0)),(4,.v .bool)],[Va],[.cells .bool],0,0⟩ (((),e.1,()),((r7 p (p.t7,())),()),e.2,())
 ve:=⟨[1,3,4,5],[],[],[]⟩
 pe:=[(.exit 2,⟨[1,3,4],[],[],[]⟩)]
abbrev UD:LD (Ba) (Bool×(List Bool)) ((List Bool))where
 sk:=⟨[(1,.loc 0 0),(3,.v (.all 0)),(4,.v .bool)],[Va],[.cells .bool],0,0⟩
 p:=λu=>(q8 u.2.1.1)
 t:=λu=>(u.1.2.1,u.2.2.1)
 n:=λp t=>(((),t.1,()),((r7 p (p.t7,())),()),t.2,())
 st:=λY p t ki ke=>cond t.1
  ((Ua (Qp.m p) (false,(Ka ((nt (fa p.1))-(1:Int))),t.2)).bind λe1=>
  ki (e1.1,e1.2))
  (ke (t.2))
 o:=λZ p e K=>so K (.exit 0) ⟨[(3,.v (.all 0))],[],[.cells .bool],0,0⟩ (((),()),(),e,())
 ve:=⟨[1,3,4],[],[],[]⟩
 pe:=[(.exit 0,⟨[3],[],[],[]⟩)]
abbrev Dt:LD (Int×(List Bool)) (Int) ((Unit) ⊕ (Unit))where
 sk:=⟨[(69,.v (.all 0)),(70,.i),(71,.i)],[],[.cells .bool],0,0⟩
 p:=λu=>(u.1.2.1,u.2.2.1)
 t:=λu=>u.1.2.2.1
 n:=λp t=>(((),p.1,t,()),(),p.2,())
 st:=λY p t ki ke=>cond (decide (t<p.1))
  (ask (V.ua t (fa p.2)) (cond (!(gx p.2 (ia t) false))
  (ke (.inl ()))
  (ki ((Ka (t+(1:Int)))))))
  (ke (.inr (())))
 o:=λZ p e K=>Sum.elim (λe=>so K (.ret) ⟨[(2,.v .bool)],[],[],0,0⟩ ((false,()),(),())) (λe=>so K (.exit 6) ⟨[],[],[],0,0⟩ ((),(),())) e
 ve:=⟨[69,70,71],[],[],[]⟩
 pe:=[(.ret,⟨[2],[],[],[]⟩),(.exit 6,⟨[],[],[],[]⟩)]
def BT{X:Type}(a:Ba)(K:Bool->Option X):Option X:=
 ask (decide (0<=(nt (fa a.1)))&&decide ((nt (fa a.1))<=(nt (fa a.1)))&&decide (1 * (nt (fa a.1))<=70368744177664)&&decide ((nt (fa a.1))<9223372036854775808)) ((Ua (UD.m a) (true,(fb (ia (nt (fa a.1))) (false:Bool)))).bind λe1=>
 (Ua (Dt.m ((nt (fa e1)),e1)) 0).bind λe2=>
 Sum.elim (λe3=>K false)
 (λe4=>K true) e2)
def qH:=λa=>BT a some
def gai:Spec:=Zad.sp qH
noncomputable def IM:Env:=eE [] (Ra []) (qL 12 Et.q (qL 6 Qp.q (qL 3 UD.q (qL 20 Dt.q qN))))
theorem rP:LL C IM [1] Tryz.f43 9802571:=λhc=>
 lO hc Et
theorem CW:LL C IM [1] Tryz.f43 4939:=λhc=>
 lO hc Qp (hl:=(Vi (Ta (rP hc) fc)))
theorem DW:LL C IM [1] Tryz.f43 75:=λhc=>
 lO hc UD (hl:=(Vi (Ta (CW hc) fc)))
theorem qP:LL C IM [1] Tryz.f43 151:=λhc=>
 lO hc Dt
theorem hai:OK (1) 43 (Zad.sp qH):=
 fO (env:=IM) (za cn) (fn:=Tryz.f43) (mc:=@BT) (by intros;simp only[qH,BT,nn]) (Ca:=[1]) (hl:=λhc=>(Vi (Ta (DW hc) (Ta (qP hc) fc))))
def Bae:FS (Ba) (Bool)where
 sk:=⟨(.cons (.agg Va) .nil),[],0⟩
 a:=λu=>(q8 u.1.1)
 o:=λZ a r K=>kv K (.bool) [] 0 r ()
abbrev SE:PD (Ba) (Bool)where
 sk:=⟨[(1,.loc 0 0)],[Va],[],0,0⟩
 p:=λu=>(q8 u.2.1.1)
 st:=λY p ke=>cond (decide ((nt (fa p.1))<(1:Int)))
  (ke (true))
  (cond (decide ((4096:Int)<(nt (fa p.1))))
  (ke (true))
  (cond (decide (p.2.1<(0:Int)))
  (ke (true))
  (cond (decide ((nt (fa p.1))<=p.2.1))
  (ke (true))
  (ask (V.ua p.2.1 (fa p.1)) (cond (!(decide ((gx p.1 (ia p.2.1) Pb).1=(17:Int))))
  (ke (true))
  ((uH p).bind λr1=>
  ke ((!r1))))))))
 o:=λZ p e K=>so K (.normal) ⟨[(1,.loc 0 0),(47,.v .bool)],[Va],[],0,0⟩ ((e,()),((r7 p (p.t7,())),()),())
 ve:=⟨[1],[],[],[]⟩
 pe:=[(.normal,⟨[1,47],[],[],[]⟩)]
abbrev QE:PD ((List Int)×Int×(List Lb)×Int×Int×Ba×Lb) (Bool)where
 sk:=⟨[(1,.loc 0 0),(3,.v (.lit .i)),(5,.i),(6,.loc 1 0),(56,.v (.lit Vd)),(57,.i),(58,.i)],[Va,Sc],[],0,0⟩
 p:=λu=>(r5 u.1 ((q8 u.2.1.1),u.2.1.2.1.1,(q7 u.2.1.2.1.2)))
 st:=λY p ke=>cond (decide (p.2.2.2.2.2.2.1<(1:Int)))
  (ke (true))
  (cond (decide ((22:Int)<=p.2.2.2.2.2.2.1))
  (ke (true))
  (cond (decide (p.2.2.2.2.2.2.1=(17:Int)))
  (cond (!(decide (p.2.1=p.2.2.2.2.2.1.2.1)))
  (ke (true))
  ((bE p.2.2.2.2.2.2).bind λr1=>
  cond (!r1)
  (ke (true))
  ((VD (p.2.2.2.2.2.2,(nt (fa p.2.2.2.2.2.1.1)))).bind λr2=>
  ke ((!r2)))))
  ((bE p.2.2.2.2.2.2).bind λr3=>
  cond (!r3)
  (ke (true))
  ((VD (p.2.2.2.2.2.2,(nt (fa p.2.2.2.2.2.1.1)))).bind λr4=>
  ke ((!r4))))))
 o:=λZ p e K=>so K (.normal) ⟨[(1,.loc 0 0),(3,.v (.lit .i)),(5,.i),(6,.loc 1 0),(56,.v (.lit Vd)),(57,.i),(58,.i),(94,.v .bool)],[Va,Sc],[],0,0⟩ ((r5 p (e,())),((r7 p.t5.1 (p.t5.1.t7,())),(r7 p.t6 (p.t13,())),()),())
 ve:=⟨[1,3,5,6,56,57,58],[],[],[]⟩
 pe:=[(.normal,⟨[1,3,5,6,56,57,58,94],[],[],[]⟩)]
abbrev Vx:PD ((List Int)×Int×Int×(List Lb)×Int×Int×(List Int)×Int×Int×(Ba×Lb)) (Bool)where
 sk:=⟨[(1,.loc 0 0),(3,.v (.lit .i)),(5,.i),(6,.loc 1 0),(8,.i),(56,.v (.lit Vd)),(57,.i),(58,.i),(96,.v (.lit .i)),(97,.i),(98,.i)],[Va,Sc],[],0,0⟩
 p:=λu=>(r9 u.1 ((q8 u.2.1.1),(q8 u.2.1.2.1)))
 st:=λY p ke=>cond (decide (p.2.2.1<(0:Int)))
  (ke (true))
  (cond (decide (p.2.2.2.2.2.2.2.2.2.1.2.2.1<=p.2.2.1))
  (ke (true))
  (cond (decide ((nt (fa p.2.2.2.2.2.2.2.2.2.1.2.2.2.2.2.1))<=p.2.2.1))
  (ask (V.ua (Ka (p.2.2.1-(nt (fa p.2.2.2.2.2.2.2.2.2.1.2.2.2.2.2.1)))) (fa p.1)) (ke ((decide (p.2.1<=(gx p.1 (ia (Ka (p.2.2.1-(nt (fa p.2.2.2.2.2.2.2.2.2.1.2.2.2.2.2.1))))) (0:Int)))))))
  (ke (false))))
 o:=λZ p e K=>so K (.normal) ⟨[(1,.loc 0 0),(3,.v (.lit .i)),(5,.i),(6,.loc 1 0),(56,.v (.lit Vd)),(57,.i),(58,.i),(96,.v (.lit .i)),(97,.i),(98,.i),(128,.v .bool)],[Va,Sc],[],0,0⟩ ((p.1,p.2.1,(r6 p.t3 (e,()))),((r7 p.t9.1 (p.t9.1.t7,())),(r7 p.t10 (p.t17,())),()),())
 ve:=⟨[1,3,5,6,8,56,57,58,96,97,98],[],[],[]⟩
 pe:=[(.normal,⟨[1,3,5,6,56,57,58,96,97,98,128],[],[],[]⟩)]
abbrev fq:LD ((List Int)×Int×(List Lb)×Int×Int×(List Int)×Int×Ba×Lb) (Int) ((Unit) ⊕ (Unit))where
 sk:=⟨[(1,.loc 0 0),(3,.v (.lit .i)),(5,.i),(6,.loc 1 0),(56,.v (.lit Vd)),(57,.i),(58,.i),(96,.v (.lit .i)),(97,.i),(98,.i)],[Va,Sc],[],0,0⟩
 p:=λu=>(r7 u.1 ((q8 u.2.1.1),u.2.1.2.1.1,(q7 u.2.1.2.1.2)))
 t:=λu=>u.1.t7.1
 n:=λp t=>((r7 p (t,())),((r7 p.t7.1 (p.t7.1.t7,())),(r7 p.t8 (p.t15,())),()),())
 st:=λY p t ki ke=>cond (decide (t<p.2.2.2.2.2.2.1))
  (ask (V.ua t (fa p.2.2.2.2.2.1)) ((Vx.m (p.1,p.2.1,(gx p.2.2.2.2.2.1 (ia t) (0:Int)),p.2.2.1,p.2.2.2.1,p.2.2.2.2.1,p.2.2.2.2.2.1,p.2.2.2.2.2.2.1,t,p.2.2.2.2.2.2.2)).bind λe1=>
  cond e1
  (ke (.inl ()))
  (ki ((Ka (t+(1:Int)))))))
  (ke (.inr (())))
 o:=λZ p e K=>Sum.elim (λe=>so K (.ret) ⟨[(2,.v .bool)],[],[],0,0⟩ ((false,()),(),())) (λe=>so K (.exit 2) ⟨[(1,.loc 0 0),(3,.v (.lit .i)),(6,.loc 1 0),(56,.v (.lit Vd)),(57,.i),(58,.i)],[Va,Sc],[],0,0⟩ ((p.1,(r3 p.2.2 ())),((r7 p.t7.1 (p.t7.1.t7,())),(r7 p.t8 (p.t15,())),()),())) e
 ve:=⟨[1,3,5,6,56,57,58,96,97,98],[],[],[]⟩
 pe:=[(.ret,⟨[2],[],[],[]⟩),(.exit 2,⟨[1,3,6,56,57,58],[],[],[]⟩)]
abbrev Ux:PD ((List Int)×(List Lb)×Int×Int×Ba×Lb) (Bool)where
 sk:=⟨[(1,.loc 0 0),(3,.v (.lit .i)),(6,.loc 1 0),(56,.v (.lit Vd)),(57,.i),(58,.i)],[Va,Sc],[],0,0⟩
 p:=λu=>(r4 u.1 ((q8 u.2.1.1),u.2.1.2.1.1,(q7 u.2.1.2.1.2)))
 st:=λY p ke=>cond (decide (p.2.2.2.2.2.1=(11:Int)))
  (ke (true))
  (ke ((decide (p.2.2.2.2.2.1=(14:Int)))))
 o:=λZ p e K=>so K (.normal) ⟨[(1,.loc 0 0),(3,.v (.lit .i)),(6,.loc 1 0),(9,.v .bool),(56,.v (.lit Vd)),(57,.i),(58,.i)],[Va,Sc],[],0,0⟩ ((p.1,e,(r3 p.2 ())),((r7 p.t4.1 (p.t4.1.t7,())),(r7 p.t5 (p.t12,())),()),())
 ve:=⟨[1,3,6,56,57,58],[],[],[]⟩
 pe:=[(.normal,⟨[1,3,6,9,56,57,58],[],[],[]⟩)]
abbrev Tx:PD ((List Int)×Bool×(List Lb)×Int×Int×Ba×Lb) (Bool)where
 sk:=⟨[(1,.loc 0 0),(3,.v (.lit .i)),(6,.loc 1 0),(9,.v .bool),(56,.v (.lit Vd)),(57,.i),(58,.i)],[Va,Sc],[],0,0⟩
 p:=λu=>(r5 u.1 ((q8 u.2.1.1),u.2.1.2.1.1,(q7 u.2.1.2.1.2)))
 st:=λY p ke=>let zA:=(decide ((nt (fa p.2.2.2.2.2.1.2.2.2.2.2.1))<=p.2.2.2.2.2.2.2.1))
  let zB:=decide (p.2.2.2.2.2.2.2.1<(0:Int))
  let zC:=decide (p.2.2.2.2.2.2.1=(13:Int))
  let zD:=decide (p.2.2.2.2.2.2.2.2.1<(0:Int))
  let zE:=decide ((nt (fa p.2.2.2.2.2.1.2.2.2.2.1))<=p.2.2.2.2.2.2.2.2.1)
  cond p.2.1
  (cond zD
  (ke (true))
  (cond (decide ((nt (fa p.2.2.2.2.2.1.2.2.2.2.2.2.1))<=p.2.2.2.2.2.2.2.2.1))
  (ke (true))
  (cond (decide (p.2.2.2.2.2.2.1=(12:Int)))
  (cond zD
  (ke (true))
  (cond zE
  (ke (true))
  (cond zC
  (cond zB
  (ke (true))
  (ke zA))
  (ke (false)))))
  (cond zC
  (cond zB
  (ke (true))
  (ke zA))
  (ke (false))))))
  (cond (decide (p.2.2.2.2.2.2.1=(12:Int)))
  (cond zD
  (ke (true))
  (cond zE
  (ke (true))
  (cond zC
  (cond zB
  (ke (true))
  (ke zA))
  (ke (false)))))
  (cond zC
  (cond zB
  (ke (true))
  (ke zA))
  (ke (false))))
 o:=λZ p e K=>so K (.normal) ⟨[(1,.loc 0 0),(3,.v (.lit .i)),(6,.loc 1 0),(56,.v (.lit Vd)),(57,.i),(58,.i),(187,.v .bool)],[Va,Sc],[],0,0⟩ ((p.1,(r3 p.2.2 (e,()))),((r7 p.t5.1 (p.t5.1.t7,())),(r7 p.t6 (p.t13,())),()),())
 ve:=⟨[1,3,6,9,56,57,58],[],[],[]⟩
 pe:=[(.normal,⟨[1,3,6,56,57,58,187],[],[],[]⟩)]
abbrev Sx:PD ((List Int)×(List Lb)×Int×Int×Ba×Lb) (Bool)where
 sk:=⟨[(1,.loc 0 0),(3,.v (.lit .i)),(6,.loc 1 0),(56,.v (.lit Vd)),(57,.i),(58,.i)],[Va,Sc],[],0,0⟩
 p:=λu=>(r4 u.1 ((q8 u.2.1.1),u.2.1.2.1.1,(q7 u.2.1.2.1.2)))
 st:=λY p ke=>cond (decide (p.2.2.2.2.2.1=(1:Int)))
  (cond (decide (p.2.2.2.2.2.2.2.2.2.1<(-2147483648:Int)))
  (ke (true))
  (cond (decide ((2147483647:Int)<p.2.2.2.2.2.2.2.2.2.1))
  (ke (true))
  (cond (decide (p.2.2.2.2.2.1=(15:Int)))
  (cond (decide (p.2.2.2.2.2.2.2.2.2.1<(14:Int)))
  (ke (true))
  (cond (decide ((19:Int)<p.2.2.2.2.2.2.2.2.2.1))
  (ke (true))
  ((yx (p.2.2.2.2.1,p.1,p.2.2.2.2.2)).bind λr1=>
  ke ((!r1)))))
  ((yx (p.2.2.2.2.1,p.1,p.2.2.2.2.2)).bind λr2=>
  ke ((!r2))))))
  (cond (decide (p.2.2.2.2.2.1=(15:Int)))
  (cond (decide (p.2.2.2.2.2.2.2.2.2.1<(14:Int)))
  (ke (true))
  (cond (decide ((19:Int)<p.2.2.2.2.2.2.2.2.2.1))
  (ke (true))
  ((yx (p.2.2.2.2.1,p.1,p.2.2.2.2.2)).bind λr3=>
  ke ((!r3)))))
  ((yx (p.2.2.2.2.1,p.1,p.2.2.2.2.2)).bind λr4=>
  ke ((!r4))))
 o:=λZ p e K=>so K (.normal) ⟨[(1,.loc 0 0),(3,.v (.lit .i)),(56,.v (.lit Vd)),(57,.i),(58,.i),(222,.v .bool)],[Va],[],0,0⟩ ((r4 p (e,())),((r7 p.t4.1 (p.t4.1.t7,())),()),())
 ve:=⟨[1,3,6,56,57,58],[],[],[]⟩
 pe:=[(.normal,⟨[1,3,56,57,58,222],[],[],[]⟩)]
abbrev Cv:LD ((List Int)×(List Lb)×Int×Ba) (Int) ((Unit) ⊕ (Unit))where
 sk:=⟨[(1,.loc 0 0),(3,.v (.lit .i)),(56,.v (.lit Vd)),(57,.i),(58,.i)],[Va],[],0,0⟩
 p:=λu=>(r3 u.1 (q8 u.2.1.1))
 t:=λu=>u.1.t3.1
 n:=λp t=>((r3 p (t,())),((r7 p.t3 (p.t10,())),()),())
 st:=λY p t ki ke=>cond (decide (t<p.2.2.1))
  (ask (V.ua t (fa p.2.1)) ((QE.m (p.1,t,p.2.1,p.2.2.1,t,p.2.2.2,(gx p.2.1 (ia t) Pb))).bind λe1=>
  cond e1
  (ke (.inl ()))
  ((rH (gx p.2.1 (ia t) Pb)).bind λr2=>
  (Ua (fq.m (p.1,t,p.2.1,p.2.2.1,t,r2,(nt (fa r2)),p.2.2.2,(gx p.2.1 (ia t) Pb))) 0).bind λe3=>
  Sum.elim (λe4=>ke (.inl ()))
  (λe5=>(Ux.m (p.1,p.2.1,p.2.2.1,t,p.2.2.2,(gx p.2.1 (ia t) Pb))).bind λe6=>
  (Tx.m (p.1,e6,p.2.1,p.2.2.1,t,p.2.2.2,(gx p.2.1 (ia t) Pb))).bind λe7=>
  cond e7
  (ke (.inl ()))
  ((Sx.m (p.1,p.2.1,p.2.2.1,t,p.2.2.2,(gx p.2.1 (ia t) Pb))).bind λe8=>
  cond e8
  (ke (.inl ()))
  (ki ((Ka (t+(1:Int))))))) e3)))
  (ke (.inr (())))
 o:=λZ p e K=>Sum.elim (λe=>so K (.ret) ⟨[(2,.v .bool)],[],[],0,0⟩ ((false,()),(),())) (λe=>so K (.exit 0) ⟨[(1,.loc 0 0)],[Va],[],0,0⟩ ((),((r7 p.t3 (p.t10,())),()),())) e
 ve:=⟨[1,3,56,57,58],[],[],[]⟩
 pe:=[(.ret,⟨[2],[],[],[]⟩),(.exit 0,⟨[1],[],[],[]⟩)]
def wU{X:Type}(a:Ba)(K:Bool->Option X):Option X:=
 (SE.m a).bind λe1=>
 cond e1
 (K false)
 ((tH a).bind λr2=>
 cond (!r2.2)
 (K false)
 ((Ua (Cv.m (r2.1,a.1,(nt (fa a.1)),a)) 0).bind λe3=>
 Sum.elim (λe4=>K false)
 (λe5=>(qH a).bind λr6=>
 K r6) e3))
def CH:=λa=>wU a some
def Saj:Spec:=Bae.sp CH
noncomputable def Wx:Env:=eE [2000001,2000009,2000014,2000017,2000018,2000020] (Ra [(37,vai),(38,sai),(39,qai),(40,nai),(41,kai),(42,iai),(43,gai)]) (qL 2000001 SE.q (qL 2000009 QE.q (qL 2000014 Vx.q (qL 12 fq.q (qL 2000017 Ux.q (qL 2000018 Tx.q (qL 2000020 Sx.q (qL 7 Cv.q qN))))))))
theorem AX:LP C Wx [1,6] Tryz.f10 9:=λhc=>
 pO 2000001 hc SE
theorem zX:LP C Wx [1,6] Tryz.f10 37679:=λhc=>
 pN (n':=λp=>((r5 p ()),((r7 p.t5.1 (p.t5.1.t7,())),(r7 p.t6 (p.t13,())),()),())) 2000009 hc QE
theorem DQ:LP C Wx [1,6] Tryz.f10 21803823:=λhc=>
 pN (n':=λp=>((r9 p ()),((r7 p.t9.1 (p.t9.1.t7,())),(r7 p.t10 (p.t17,())),()),())) 2000014 hc Vx
theorem FQ:LL C Wx [1,6] Tryz.f10 308015:=λhc=>
 lO hc fq (hl:=(Vi (Ta (DQ hc) fc)))
theorem CQ:LP C Wx [1,6] Tryz.f10 95023:=λhc=>
 pN (n':=λp=>((r4 p ()),((r7 p.t4.1 (p.t4.1.t7,())),(r7 p.t5 (p.t12,())),()),())) 2000017 hc Ux
theorem BQ:LP C Wx [1,6] Tryz.f10 324399:=λhc=>
 pN (n':=λp=>((r5 p ()),((r7 p.t5.1 (p.t5.1.t7,())),(r7 p.t6 (p.t13,())),()),())) 2000018 hc Tx
theorem AQ:LP C Wx [1,6] Tryz.f10 389935:=λhc=>
 pN (n':=λp=>((r4 p ()),((r7 p.t4.1 (p.t4.1.t7,())),(r7 p.t5 (p.t12,())),()),())) 2000020 hc Sx
theorem BX:LL C Wx [1,6] Tryz.f10 303:=λhc=>
 lO hc Cv (hl:=(Vi (Ta (zX hc) (Ta (FQ hc) (Ta (CQ hc) (Ta (BQ hc) (Ta (AQ hc) fc)))))))
theorem Taj:OK (5) 10 (Bae.sp CH):=
 fO (env:=Wx) (za (cc wai (cc tai (cc rai (cc oai (cc lai (cc jai (cc hai cn)))))))) (fn:=Tryz.f10) (mc:=@wU) (by intros;simp only[CH,wU,nn]) (Ca:=[1,6]) (hl:=λhc=>(Vi (Ta (AX hc) (Ta (BX hc) fc))))
end
end Go.U
end
