/- The functions of the program as Lean functions, and that the evaluator says so. -/
import Derived.Test.YtjenflkegbmkkaaGreatDoorB3
import Derived.Test.YtjenflkegbmkkaaGreatDoorA6
import Derived.Test.YtjenflkegbmkkaaGreatDoorProg
import Derived.KernelRfl
import Derived.Test.YtjenflkegbmkkaaGreatDoorB5
import Derived.Lib.ItoaNum
set_option linter.unusedVariables false
set_option linter.unusedSimpArgs false
set_option linter.unusedSectionVars false
namespace Go.U
open Go Go.Proofs
def wi64 (n:Int):Int:=IntKind.wrap .i64 n
def wu64 (n:Int):Int:=IntKind.wrap .u64 n
def nt (n:Nat):Int:=n
def gx {α:Type} (l:List α) (i:Nat) (d:α):α:=l.getD i d
def str (l:List UInt8):ByteArray:=⟨l.toArray⟩
def bits_and (k:IntKind) (x y:Int):Int:=let a:=BitVec.ofInt k.bits x;let b:=BitVec.ofInt k.bits y;k.wrap (a &&& b).toNat
abbrev cAlarm:CT:=(.pair (.int .i64) (.int .i64))
abbrev TAlarm:Type:=(Int×Int)
abbrev dAlarm:TAlarm:=((0:Int),(0:Int))
abbrev cScalar:CT:=(.pair .str cAlarm)
abbrev TScalar:Type:=(ByteArray×TAlarm)
abbrev dScalar:TScalar:=(ByteArray.empty,dAlarm)
abbrev cInput:CT:=(.pair .str (.pair (.int .i64) cAlarm))
abbrev TInput:Type:=(ByteArray×(Int×TAlarm))
abbrev dInput:TInput:=(ByteArray.empty,((0:Int),dAlarm))
abbrev cThing:CT:=(.pair (.int .i64) (.pair (.int .i64) cAlarm))
abbrev TThing:Type:=(Int×(Int×TAlarm))
abbrev dThing:TThing:=((0:Int),((0:Int),dAlarm))
abbrev cCover:CT:=(.pair (.slice .bool) (.pair (.slice (.pair .bool .bool)) (.slice cAlarm)))
abbrev TCover:Type:=((List Bool)×((List (Bool×Bool))×(List TAlarm)))
abbrev dCover:TCover:=([],([],[]))
abbrev cInstr:CT:=(.pair (.int .i64) (.pair (.int .i64) (.pair (.int .i64) (.pair (.int .i64) cThing))))
abbrev TInstr:Type:=(Int×(Int×(Int×(Int×TThing))))
abbrev dInstr:TInstr:=((0:Int),((0:Int),((0:Int),((0:Int),dThing))))
abbrev TOutcome:Type:=(Int×(Int×(Int×(Int×(Int×((List Int)×((List (List Int))×(List (List Int)))))))))
abbrev cGraph:CT:=(.pair (.slice cInstr) (.pair (.int .i64) (.pair (.int .i64) (.pair (.int .i64) (.pair (.slice cInput) (.pair (.slice cScalar) (.pair (.slice cInput) (.slice cAlarm))))))))
abbrev TGraph:Type:=((List TInstr)×(Int×(Int×(Int×((List TInput)×((List TScalar)×((List TInput)×(List TAlarm))))))))
def bodyOf (f:Func):Code:=match f.body with|some c=>c|none=> .skip
def kid:Code->Nat->Code
 | .seq a _,0=>a
 | .seq _ b,1=>b
 | .cond _ a _,0=>a
 | .cond _ _ b,1=>b
 | .block _ c,0=>c
 | .loop c,0=>c
 | .scope c,0=>c
 | .rangeFunc _ _ a _,0=>a
 | .rangeFunc _ _ _ b,1=>b
 |c,_=>c
def subAt:List Nat->Code->Code
 |[],c=>c
 |i::l,c=>subAt l (kid c i)
def offJ (j:Nat->Bool) (key k:Nat):Bool:=if k=key then false else j k
def lookF {α:Type} (d:α):List (FuncId×α)->FuncId->α
 |[],_=>d
 |(g,x)::l,f=>if f=g then x else lookF d l f
def rfG:Code->Operand
 | .rangeFunc g _ _ _=>g
 |_=> .tmp 0
def rfPs:Code->Array Tmp
 | .rangeFunc _ ps _ _=>ps
 |_=> #[]
def rfA:Code->Code
 | .rangeFunc _ _ a _=>a
 |c=>c
def rfB:Code->Code
 | .rangeFunc _ _ _ b=>b
 |c=>c
def rfOf (n:Nat) (c:Code):RFn:=⟨n,(rfPs c).toList,rfA c,rfB c⟩
noncomputable def rfT:Nat->RFn:=lookF ⟨0,[],.skip,.skip⟩ [(180000,rfOf 10 (subAt [1,1,0,1,0] (bodyOf Tryz.f18))),(230003,rfOf 63 (subAt [1,1,0,1,0] (bodyOf Tryz.f23))),(240002,rfOf 13 (subAt [1,0,1,0] (bodyOf Tryz.f24))),(440003,rfOf 17 (subAt [1,1,0,1,0] (bodyOf Tryz.f44)))]
noncomputable instance:Tbl:=⟨rfT,74,5⟩
def pow10:List V.AV:=[.int .u64 1,.int .u64 10,.int .u64 100,.int .u64 1000,.int .u64 10000,.int .u64 100000,.int .u64 1000000,.int .u64 10000000,.int .u64 100000000,.int .u64 1000000000,.int .u64 10000000000,.int .u64 100000000000,.int .u64 1000000000000,.int .u64 10000000000000,.int .u64 100000000000000,.int .u64 1000000000000000,.int .u64 10000000000000000,.int .u64 100000000000000000,.int .u64 1000000000000000000,.int .u64 10000000000000000000]
noncomputable def parX:FuncId->Option (List V.AV->V.AH->Option (V.AV×V.AH)):=lookF none [(41,some (V.strX 74 5)),(67,some (V.ccX 74)),(103,some (V.fiX)),(45,some (V.del1X)),(51,some (V.sort2X 52 V.sortA)),(46,some (V.sort1X V.sortI))]
noncomputable def parF:List (FuncId×Option Func):=[(3,some Tryz.f3),(4,some Tryz.f4),(5,some Tryz.f5),(6,some Tryz.f6),(7,some Tryz.f7),(8,some Tryz.f8),(9,some Tryz.f9),(10,some Tryz.f10),(11,some Tryz.f11),(12,some Tryz.f12),(13,some Tryz.f13),(14,some Tryz.f14),(15,some Tryz.f15),(16,some Tryz.f16),(17,some Tryz.f17),(18,some Tryz.f18),(19,some Tryz.f19),(20,some Tryz.f20),(21,some Tryz.f21),(22,some Tryz.f22),(23,some Tryz.f23),(24,some Tryz.f24),(25,some Tryz.f25),(26,some Tryz.f26),(27,some Tryz.f27),(28,some Tryz.f28),(29,some Tryz.f29),(30,some Tryz.f30),(31,some Tryz.f31),(32,some Tryz.f32),(33,some Tryz.f33),(34,some Tryz.f34),(35,some Tryz.f35),(36,some Tryz.f36),(37,some Tryz.f37),(39,some Tryz.f39),(40,some Tryz.f40),(42,some Tryz.f42),(43,some Tryz.f43),(44,some Tryz.f44),(50,some Tryz.f50),(55,some Tryz.f55),(56,some Tryz.f56),(57,some Tryz.f57),(58,some Tryz.f58),(59,some Tryz.f59),(60,some Tryz.f60),(61,some Tryz.f61),(62,some Tryz.f62),(63,some Tryz.f63),(64,some Tryz.f64),(65,some Tryz.f65),(66,some Tryz.f66),(68,some Tryz.f68),(69,some Tryz.f69),(72,some Tryz.f72),(75,some Tryz.f75),(76,some Tryz.f76),(77,some Tryz.f77),(78,some Tryz.f78),(79,some Tryz.f79),(80,some Tryz.f80),(81,some Tryz.f81),(82,some Tryz.f82),(83,some Tryz.f83),(84,some Tryz.f84),(85,some Tryz.f85),(86,some Tryz.f86),(87,some Tryz.f87),(88,some Tryz.f88),(89,some Tryz.f89),(90,some Tryz.f90),(91,some Tryz.f91),(92,some Tryz.f92),(93,some Tryz.f93),(94,some Tryz.f94),(95,some Tryz.f95),(96,some Tryz.f96),(97,some Tryz.f97),(98,some Tryz.f98),(99,some Tryz.f99),(100,some Tryz.f100),(101,some Tryz.f101),(115,some Tryz.f115),(124,some Tryz.f124),(125,some Tryz.f125),(126,some Tryz.f126),(127,some Tryz.f127),(128,some Tryz.f128),(129,some Tryz.f129),(130,some Tryz.f130),(131,some Tryz.f131),(38,some Tryz.f38),(41,some Tryz.f41),(67,some Tryz.f67),(103,some Tryz.f103),(48,some Tryz.f48),(47,some Tryz.f47),(49,some Tryz.f49),(45,some Tryz.f45),(51,some Tryz.f51),(46,some Tryz.f46)]
noncomputable def par:V.Par where
 P:=Tryz.prog
 fns:=lookF none parF
 loc:=lookF [] [(3,[3,7,8]),(4,[3]),(5,[4,10,11,12]),(6,[3,10]),(7,[11,2000021]),(8,[1,6]),(9,[1,2000004,2000005,2000006,2000040]),(11,[3,6,7]),(12,[3,6,7,10,11]),(13,[2,3]),(14,[1,2]),(15,[1,2]),(16,[2,3,10,15,16]),(17,[2,3]),(19,[1]),(21,[3,11,16,19]),(22,[3,10,18]),(25,[4,8,10,14]),(26,[14]),(27,[1,4,6,8,10]),(28,[1,6,10]),(29,[1]),(30,[2]),(31,[1]),(32,[3,5]),(33,[1]),(34,[0]),(35,[2,3,4,5]),(36,[3,6,7]),(37,[6,7,12]),(50,[2,3]),(55,[3,9,11]),(56,[0]),(62,[3,5,10]),(63,[3]),(64,[3,6,8]),(65,[13]),(66,[2]),(69,[6,10]),(72,[3]),(76,[5]),(78,[4]),(79,[3]),(80,[3]),(86,[3]),(89,[3]),(90,[3,5]),(91,[3]),(92,[3]),(93,[3,6]),(94,[3]),(95,[3]),(96,[3]),(98,[3]),(99,[3]),(100,[3]),(101,[2]),(115,[3]),(124,[3]),(126,[4]),(128,[3]),(131,[3])]
 keep:=lookF [] [(3,List.range 83),(4,List.range 25),(5,List.range 128),(6,List.range 106),(7,List.range 123),(8,List.range 226),(9,List.range 52),(10,List.range 9),(11,List.range 27),(12,List.range 34),(13,List.range 81),(14,List.range 12),(15,List.range 12),(16,List.range 127),(17,List.range 145),(18,List.range 10),(19,List.range 39),(20,List.range 26),(21,List.range 122),(22,List.range 143),(23,List.range 63),(24,List.range 13),(25,List.range 95),(26,List.range 56),(27,List.range 174),(28,List.range 91),(29,List.range 96),(30,List.range 44),(31,List.range 38),(32,List.range 49),(33,List.range 78),(34,List.range 26),(35,List.range 112),(36,List.range 17),(37,List.range 33),(39,List.range 5),(40,List.range 17),(42,List.range 5),(43,List.range 4),(44,List.range 17),(50,List.range 48),(55,List.range 75),(56,List.range 20),(57,List.range 16),(58,List.range 9),(59,List.range 7),(60,List.range 7),(61,List.range 12),(62,List.range 95),(63,List.range 75),(64,List.range 79),(65,List.range 41),(66,List.range 40),(68,List.range 5),(69,List.range 66),(72,List.range 9),(75,List.range 6),(76,List.range 42),(77,List.range 20),(78,List.range 21),(79,List.range 4),(80,List.range 13),(81,List.range 7),(82,List.range 9),(83,List.range 8),(84,List.range 8),(85,List.range 8),(86,List.range 57),(87,List.range 8),(88,List.range 8),(89,List.range 23),(90,List.range 68),(91,List.range 37),(92,List.range 42),(93,List.range 54),(94,List.range 49),(95,List.range 13),(96,List.range 6),(97,List.range 17),(98,List.range 7),(99,List.range 78),(100,List.range 57),(101,List.range 352),(115,List.range 19),(124,List.range 45),(125,List.range 9),(126,List.range 21),(127,List.range 28),(128,List.range 53),(129,List.range 19),(130,List.range 17),(131,List.range 99),(38,List.range 19),(41,List.range 14),(67,List.range 20),(103,List.range 54),(48,List.range 8),(47,List.range 8),(49,List.range 8),(45,List.range 33),(51,List.range 14),(46,List.range 11)]
 frz:=lookF false [(21,true),(22,true),(28,true),(31,true),(34,true),(36,true),(37,true),(57,true),(130,true)]
 ext:=parX
 glob:=lookF none [(0,some pow10)]
def glob (_:Nat):Option (List UV):=none
theorem glob_ok:GlobOK par glob:=fun i row h=>by simp [glob] at h
def OK (d:Nat) (f:FuncId) (s:Spec):Prop:=∀ k,d<=k->SpecOK (V.call par k) f s
def OKY (d:Nat) (s:Spec):Prop:=∀ k,d<=k->SpecYl (V.call par k) s
def CallsOK (d:Nat) (l:List (FuncId×Spec)):Prop:=∀ k,d<=k->∀ p∈l,SpecOK (V.call par k) p.1 p.2
def CallsOKY (d:Nat) (l:List (FuncId×Spec)):Prop:=∀ k,d<=k->∀ p∈l,SpecYl (V.call par k) p.2
theorem cn {d:Nat}:CallsOK d []:=fun _ _=>ok_nil
theorem cyn {d:Nat}:CallsOKY d []:=fun _ _=>yl_nil
theorem cc {d0 d:Nat} {f:FuncId} {s:Spec} {l:List (FuncId×Spec)} (h:OK d0 f s) (hl:CallsOK d l) (hd:d0<=d:=by omega):CallsOK d ((f,s)::l):=fun k hk=>ok_cons (h k (Nat.le_trans hd hk)) (hl k hk)
def FS.tk {A R:Type} (S:FS A R) (args:List UV) (H:UH):Bool:=(S.sk.take args H).isSome
def alt (b:List UV->UH->Bool) (s g:Spec):Spec:=fun X args H K=>cond (b args H) (s X args H K) (g X args H K)
theorem cA {d0 d:Nat} {f:FuncId} {b:List UV->UH->Bool} {s g:Spec} {l:List (FuncId×Spec)} (h:OK d0 f s) (hl:CallsOK d ((f,g)::l)) (hd:d0<=d:=by omega):CallsOK d ((f,alt b s g)::l):=fun k hk=>
 ok_cons (fun X args H K out ho=>by
  unfold alt at ho;cases hb:b args H<;>rw [hb] at ho
  · exact hl k hk _ List.mem_cons_self X args H K out ho
  · exact h k (Nat.le_trans hd hk) X args H K out ho) fun p hp=>hl k hk p (List.mem_cons_of_mem _ hp)
theorem ccy {d0 d:Nat} {f:FuncId} {s:Spec} {l:List (FuncId×Spec)} (h:OKY d0 s) (hl:CallsOKY d l) (hd:d0<=d:=by omega):CallsOKY d ((f,s)::l):=fun k hk=>yl_cons (h k (Nat.le_trans hd hk)) (hl k hk)
theorem callsL_sim {d:Nat} {l:List (FuncId×Spec)} (h:CallsOK d l):∀ k,d<=k->SimCall (V.call par k) (callsL l):=fun k hk=>callsOf_sim (h k hk)
theorem callsYL_sim {d:Nat} {l ly:List (FuncId×Spec)} (h:CallsOK d l) (hy:CallsOKY d ly):∀ k,d<=k->SimCall (V.call par k) (callsYL l ly):=fun k hk=>callsY_sim (h k hk) (hy k hk)
theorem fnOK {d:Nat} {env:Env} (hcs:∀ k,d<=k->SimCall (V.call par k) env.call) {f:FuncId} {fn:Func} {locs:List Nat} {sh:Sh} {fz:Bool}
  (hd:(par.fns f,(match fn.body with|some _=>true|none=>false),par.ext f,par.loc f,par.keep f,par.frz f)=(some fn,true,none,locs,List.range fn.ntmps,fz))
  (hl:∀ {C:V.Callee},SimCall C env.call->∀ c'∈loops env.join (bodyOf fn),LoopSim env.loop (vc par C true locs fn.ntmps) c') {A' R:Type} {S:FS A' R} {m:A'->Option R} {mc:(X:Type)->A'->(R->Option X)->Option X}
  (hrun:∀ X a K,fnRun par glob env locs fn sh fz (S.sk.args (S.n a)) (S.sk.heap (S.n a)) K=mc X a (fun r=>S.o _ a r K))
  (hnat:∀ X a K,mc X a K=(m a).bind K) (hflat:∀ u,S.n (S.a u)=u):OK (d+1) f (S.sp m):=by
 intro k hk;obtain ⟨k,rfl⟩:∃ j,k=j+1:=⟨k-1,by omega⟩;have hc:=hcs k (by omega);simp only [Prod.mk.injEq] at hd;obtain ⟨h1,h2,h3,h4,h5,h6⟩:=hd;have hb:fn.body=some (bodyOf fn):=by
  unfold bodyOf;cases hb:fn.body with
  |none=>rw [hb] at h2;simp at h2
  |some c=>rfl
 exact fn_form glob_ok hc h1 hb h3 h4 h5 h6 (hl hc) S hrun hnat hflat
theorem ylOK {d:Nat} {env:Env} (hcs:∀ k,d<=k->SimCall (V.call par k) env.call) {id:Nat} {r:RFn} (hrf:rfT id=r)
  (h1:∀ {C:V.Callee},SimCall C env.call->∀ c'∈loops env.join r.assign,LoopSim env.loop (vc par C false [] r.n) c') (h2:∀ {C:V.Callee},SimCall C env.call->∀ c'∈loops env.join r.body,LoopSim env.loop (vc par C false [] r.n) c') {A' R:Type} {S:FS A' R} {m:A'->Option R} {mc:(X:Type)->A'->(R->Option X)->Option X}
  (hrun:∀ X a K,ylRun par glob env id r (S.sk.args (S.n a)) (S.sk.heap (S.n a)) K=mc X a (fun r=>S.o _ a r K))
  (hnat:∀ X a K,mc X a K=(m a).bind K) (hflat:∀ u,S.n (S.a u)=u):OKY (d+1) (S.sp m):=by
 intro k hk;obtain ⟨k,rfl⟩:∃ j,k=j+1:=⟨k-1,by omega⟩;have hc:=hcs k (by omega);exact yl_form glob_ok hc hrf (h1 hc) (h2 hc) S hrun hnat hflat
theorem nn:(∀ {α β:Type} (b:Bool) (x y:Option α) (k:α->Option β),(cond b x y).bind k=cond b (x.bind k) (y.bind k))/\(∀ {α β:Type} (b:Bool) (x:Option α) (k:α->Option β),(ask b x).bind k=ask b (x.bind k))/\(∀ {α β γ δ:Type} (e:α ⊕ β) (f:α->Option γ) (g:β->Option γ) (k:γ->Option δ),(e.elim f g).bind k=e.elim (fun a=>(f a).bind k) (fun a=>(g a).bind k))/\(∀ {α β γ:Type} (x:Option α) (f:α->Option β) (g:β->Option γ),(x.bind f).bind g=x.bind fun a=>(f a).bind g)/\
  (∀ {α β:Type} (a:α) (f:α->Option β),(some a).bind f=f a)/\(∀ {α β:Type} (f:α->Option β),(none:Option α).bind f=none)/\(∀ {α β γ:Type} (f:α->γ) (g:β->γ) (a:α),Sum.elim f g (.inl a)=f a)/\∀ {α β γ:Type} (f:α->γ) (g:β->γ) (b:β),Sum.elim f g (.inr b)=g b:=
 ⟨n1,n2,n3,n4,n5,n6,n7,n8⟩
theorem fO {d:Nat} {env:Env} (hcs:∀ k,d<=k->SimCall (V.call par k) env.call) {f:FuncId} {fn:Func} {A' R:Type} {S:FS A' R} {m:A'->Option R} {mc:(X:Type)->A'->(R->Option X)->Option X} (hnat:∀ X a K,mc X a K=(m a).bind K) (locs:List Nat:=[]) (sh:Sh:= .any) (fz:Bool:=false)
 (hl:∀ {C:V.Callee},SimCall C env.call->∀ c'∈loops env.join (bodyOf fn),LoopSim env.loop (vc par C true locs fn.ntmps) c':=by intro _ _;refine lp_of ?_ lp_nil;kernel_rfl)
 (hd:(par.fns f,(match fn.body with|some _=>true|none=>false),par.ext f,par.loc f,par.keep f,par.frz f)=(some fn,true,none,locs,List.range fn.ntmps,fz):=by kernel_rfl)
 (hrun:∀ X a K,fnRun par glob env locs fn sh fz (S.sk.args (S.n a)) (S.sk.heap (S.n a)) K=mc X a (fun r=>S.o _ a r K):=by intro _ _ _;kernel_rfl) (hflat:∀ u,S.n (S.a u)=u:=by intro _;rfl):OK (d+1) f (S.sp m):=fnOK hcs hd hl hrun hnat hflat
section
variable {C:V.Callee} {rf:Bool} {locs:List Nat} {n:Nat}
theorem lO {env:Env} (hc:SimCall C env.call) {c:Code} {P T E:Type} (L:LD P T E) (hnat:∀ Y p t ki ke,L.st Y p t ki ke=(L.m p t).bind (Sum.elim ki ke))
 (hl:∀ c'∈loops env.join c,LoopSim env.loop (vc par C rf locs n) c':=by refine lp_of ?_ lp_nil;kernel_rfl)
 (hk:(keepB n L.pol&&L.pe.all fun q=>keepB n q.2)=true:=by kernel_rfl)
 (hstep:∀ p t,code par glob env locs n c (L.sk.fill (L.n p t)) (finU L.pol (peOf L.pe))=L.st _ p t (fun t=>some (.inl (L.sk.fill (L.n p t)))) (fun e=>some (.inr (L.o _ p e Prod.mk))):=by intro _ _;kernel_rfl)
 (hflat:∀ u,L.n (L.p u) (L.t u)=u:=by intro _;rfl) (ho:∀ Z p e K,L.o Z p e K=K (L.o _ p e Prod.mk).1 (L.o _ p e Prod.mk).2:=by intro _ _ e _;first|rfl|(rcases e with e|e<;>rfl)|(rcases e with e|e|e<;>rfl)|(rcases e with e|e|e|e<;>rfl)|exact nomatch e)
 (hq:∀ X s K,env.loop X (loopKey c) s K=L.q X s K:=by intro _ _ _;kernel_rfl):LoopSim env.loop (vc par C rf locs n) (.loop c):=loop_form glob_ok hc hl L hk hnat hstep hflat ho hq
theorem pO {env env0:Env} (hc:SimCall C env.call) (hcall:env0.call=env.call) {c:Code} {P E:Type} (L:PD P E) (hnat:∀ Y p ke,L.st Y p ke=(L.m p).bind ke)
 (hl:∀ c'∈loops env0.join c,LoopSim env0.loop (vc par C rf locs n) c':=by refine lp_of ?_ lp_nil;kernel_rfl)
 (hk:(keepB n L.pol&&L.pe.all fun q=>keepB n q.2)=true:=by kernel_rfl)
 (hstep:∀ p,code par glob env0 locs n c (L.sk.fill (L.n p)) (fun ex s=>(prep (peOf L.pe ex) s).bind fun s=>some (ex,s))=L.st _ p (fun e=>some (L.o _ p e Prod.mk)):=by intro _;kernel_rfl)
 (hflat:∀ u,L.n (L.p u)=u:=by intro _;rfl) (ho:∀ Z p e K,L.o Z p e K=K (L.o _ p e Prod.mk).1 (L.o _ p e Prod.mk).2:=by intro _ _ e _;first|rfl|(rcases e with e|e<;>rfl)|(rcases e with e|e|e<;>rfl)|(rcases e with e|e|e|e<;>rfl)|exact nomatch e)
 (hq:∀ X s K,env.loop X (keyOf c) s K=L.q X s K:=by intro _ _ _;kernel_rfl):LoopSim env.loop (vc par C rf locs n) c:=piece_form glob_ok hc hcall hl L hk hnat hstep hflat ho hq
theorem rO {env:Env} (hc:SimCall C env.call) {id:Nat} {ks:List Nat} {g:Operand} {ps:Array Tmp} {a b:Code} {P E:Type} (L:PD P E) (hnat:∀ Y p ke,L.st Y p ke=(L.m p).bind ke) (hrf:Tbl.rf id=⟨n,ps.toList,a,b⟩:=by kernel_rfl)
 (hk:(keepB n L.pol&&L.pe.all fun q=>keepB n q.2)=true:=by kernel_rfl)
 (hstep:∀ p,rfRun par glob env id n ks g (L.sk.fill (L.n p)) (fun ex s=>(prep (peOf L.pe ex) s).bind fun s=>some (ex,s))=L.st _ p (fun e=>some (L.o _ p e Prod.mk)):=by intro _;kernel_rfl)
 (hflat:∀ u,L.n (L.p u)=u:=by intro _;rfl) (ho:∀ Z p e K,L.o Z p e K=K (L.o _ p e Prod.mk).1 (L.o _ p e Prod.mk).2:=by intro _ _ e _;first|rfl|(rcases e with e|e<;>rfl)|(rcases e with e|e|e<;>rfl)|(rcases e with e|e|e|e<;>rfl)|exact nomatch e)
 (hq:∀ X s K,env.loop X (keyOf (.rangeFunc g ps a b)) s K=L.q X s K:=by intro _ _ _;kernel_rfl):LoopSim env.loop (vc par C true locs n) (.rangeFunc g ps a b):=range_form glob_ok hc rfl hrf L hk hnat hstep hflat ho hq
end
abbrev kGraph:Sk:= .cons (.lit cInstr) (.cons (.int .i64) (.cons (.int .i64) (.cons (.int .i64) (.cons (.lit cInput) (.cons (.lit cScalar) (.cons (.lit cInput) (.cons (.lit cAlarm) .nil)))))))
abbrev kInstr:Sk:= .cons (.int .i64) (.cons (.int .i64) (.cons (.int .i64) (.cons (.int .i64) (.cons (.int .i64) (.cons (.int .i64) (.cons (.int .i64) (.cons (.int .i64) .nil)))))))
abbrev kThing:Sk:= .cons (.int .i64) (.cons (.int .i64) (.cons (.int .i64) (.cons (.int .i64) .nil)))
abbrev kCover:Sk:= .cons (.lit .bool) (.cons (.lit (.pair .bool .bool)) (.cons (.lit cAlarm) .nil))
abbrev kInput:Sk:= .cons .str (.cons (.int .i64) (.cons (.int .i64) (.cons (.int .i64) .nil)))
abbrev kScalar:Sk:= .cons .str (.cons (.int .i64) (.cons (.int .i64) .nil))
abbrev kAlarm:Sk:= .cons (.int .i64) (.cons (.int .i64) .nil)
abbrev kr0:Sk:= .cons (.lit cInstr) (.cons (.int .i64) (.cons (.int .i64) (.cons (.int .i64) (.cons (.lit cInput) (.cons (.lit cScalar) (.cons (.lit cInput) (.cons (.lit cAlarm) (.cons (.lit (.int .i64)) (.cons (.int .i64) (.cons (.all 1) (.cons (.int .i64) (.cons (.int .i64) (.cons (.int .i64) (.cons (.int .i64) (.cons (.int .i64) (.cons (.int .i64) (.cons .nils (.cons (.all 2) (.cons .nils .nil)))))))))))))))))))
abbrev kr1:Sk:= .cons (.all 2) (.cons (.all 3) (.cons (.all 4) .nil))
abbrev kr3:Sk:= .cons (.lit cInstr) (.cons (.int .i64) (.cons (.int .i64) (.cons (.int .i64) (.cons (.lit cInput) (.cons (.lit cScalar) (.cons (.lit cInput) (.cons (.lit cAlarm) (.cons (.lit (.int .i64)) (.cons (.int .i64) (.cons (.all 1) (.cons (.int .i64) (.cons (.int .i64) (.cons (.int .i64) (.cons (.int .i64) (.cons (.int .i64) (.cons (.int .i64) (.cons .nils (.cons (.all 2) (.cons (.all 3) .nil)))))))))))))))))))
abbrev kr4:Sk:= .cons (.lit cInstr) (.cons (.int .i64) (.cons (.int .i64) (.cons (.int .i64) (.cons (.lit cInput) (.cons (.lit cScalar) (.cons (.lit cInput) (.cons (.lit cAlarm) (.cons (.lit (.int .i64)) (.cons (.int .i64) (.cons (.all 3) (.cons (.int .i64) (.cons (.int .i64) (.cons (.int .i64) (.cons (.int .i64) (.cons (.int .i64) (.cons (.int .i64) (.cons .nils (.cons (.all 4) (.cons (.all 5) .nil)))))))))))))))))))
abbrev kr5:Sk:= .cons (.lit cInstr) (.cons (.int .i64) (.cons (.int .i64) (.cons (.int .i64) (.cons (.lit cInput) (.cons (.lit cScalar) (.cons (.lit cInput) (.cons (.lit cAlarm) (.cons (.lit (.int .i64)) (.cons (.int .i64) (.cons (.all 8) (.cons (.int .i64) (.cons (.int .i64) (.cons (.int .i64) (.cons (.int .i64) (.cons (.int .i64) (.cons (.int .i64) (.cons .nils (.cons (.all 9) (.cons (.all 10) .nil)))))))))))))))))))
abbrev kr6:Sk:= .cons (.all 3) (.cons (.all 4) (.cons (.all 5) .nil))
abbrev kr7:Sk:= .cons (.all 3) (.cons (.all 4) (.cons (.all 6) .nil))
abbrev kr8:Sk:= .cons (.all 1) (.cons (.all 2) (.cons (.all 3) .nil))
abbrev kr9:Sk:= .cons (.all 6) (.cons (.all 7) (.cons (.all 8) .nil))
abbrev kr12:Sk:= .cons (.all 6) (.cons (.all 7) (.cons (.all 9) .nil))
abbrev Y0:Type:=TGraph×(List Int)×TInstr
abbrev Y1:Type:=(List Int)×(List TInstr)×Int×Int×TGraph×TInstr
abbrev Y2:Type:=(List TInstr)×(List TInput)×(List TScalar)×(List TInput)×(List TAlarm)
abbrev Y3:Type:=(List Bool)×(List (Bool×Bool))×(List TAlarm)
abbrev Y4:Type:=TGraph×(List Int)×Int
abbrev Y5:Type:=Int×(List Int)×(List (List Int))
abbrev Y6:Type:=Int×(List (List Int))
abbrev Y7:Type:=Int×Int×Int×(List Bool)×(List (Bool×Bool))×(List TAlarm)×Int×(List TInstr)×Int×Int×Int×(List TInput)×(List TScalar)×(List TInput)×(List TAlarm)×(List Int)×(List (List Int))
abbrev Y8:Type:=(List Bool)×(List (Bool×Bool))×Int
abbrev Y12:Type:=Int×Int×Int×(List Int)
abbrev Y14:Type:=Int×Int×(List Int)
abbrev Y15:Type:=Int×Int×Int×(List (List Int))
abbrev Y17:Type:=Int×Int×(List (List Int))
abbrev Y18:Type:=TInstr×(List TInstr)×Int×Int×Int×(List TInput)×(List TScalar)×(List TInput)×(List TAlarm)×(List Int)×Int×Int×Int×Int×Int×Int×Int×(List Int)×(List (List Int))×(List (List Int))
abbrev Y19:Type:=TInstr×Int×(List TInstr)×Int×Int×Int×(List TInput)×(List TScalar)×(List TInput)×(List TAlarm)×(List Int)×Int×Int×Int×Int×Int×Int×Int×(List Int)×(List (List Int))×(List (List Int))
abbrev Y20:Type:=TInstr×Bool×(List TInstr)×Int×Int×Int×(List TInput)×(List TScalar)×(List TInput)×(List TAlarm)×(List Int)×Int×Int×Int×Int×Int×Int×Int×(List Int)×(List (List Int))×(List (List Int))
abbrev Y21:Type:=Int×(List TInstr)×Int×Int×Int×(List TInput)×(List TScalar)×(List TInput)×(List TAlarm)×(List Int)×Int×Int×Int×Int×Int×Int×Int×(List Int)×(List (List Int))×(List (List Int))
abbrev Y22:Type:=(List TInstr)×Int×Int×Int×(List TInput)×(List TScalar)×(List TInput)×(List TAlarm)×(List Int)×Int×Int×Int×Int×Int×Int×Int×(List Int)×(List (List Int))×(List (List Int))
abbrev Y23:Type:=TGraph×(List Int)×Int×Int×Int×Int×Int×Int×Int×(List Int)×(List (List Int))×(List (List Int))
abbrev Y24:Type:=TGraph×(List Int)×Int×Int×(List Bool)×(List (Bool×Bool))×(List TAlarm)×Int×TGraph
abbrev Y25:Type:=Int×Int×Int×Int×Int×(List Int)×Int×(List Bool)×(List (Bool×Bool))×Int×(List (List Int))×(List (List Int))
abbrev Y26:Type:=Int×(List Bool)×(List (Bool×Bool))×Int×Int×Int×Int×Int×Int×Int×Int×(List Int)×(List (List Int))×(List (List Int))
abbrev Y27:Type:=TAlarm×(List TAlarm)
abbrev Y28:Type:=TThing×(List Bool)×(List (Bool×Bool))×(List TAlarm)
abbrev Y29:Type:=TCover×(List Bool)×(List (Bool×Bool))×(List TAlarm)
abbrev Y30:Type:=Int×(List Bool)×(List (Bool×Bool))×(List TAlarm)
abbrev Y31:Type:=TGraph×(List (List Int))×Int
abbrev Y32:Type:=(List Bool)×(List (Bool×Bool))×(List TAlarm)×Int
abbrev Y33:Type:=Int×Int×Int×(Bool×Bool)×TCover
abbrev Y34:Type:=TCover×(List Bool)×(List (Bool×Bool))×(List TAlarm)×Int
abbrev Y35:Type:=(List Bool)×(List (Bool×Bool))×(List TAlarm)×(List Bool)×(List (Bool×Bool))×(List TAlarm)×Bool
abbrev Y36:Type:=(List (Bool×Bool))×((List TAlarm)×Bool)
abbrev Y37:Type:=(List Bool)×(List (Bool×Bool))×(List TAlarm)×(List Bool)×(List (Bool×Bool))×(List TAlarm)
abbrev Y38:Type:=(List (Bool×Bool))×((List TAlarm)×TCover)
abbrev Y39:Type:=(List (List Int))×Int
abbrev Y40:Type:=(List Int)×(List Int)
abbrev Y41:Type:=TGraph×(List Bool)×(List (Bool×Bool))×(List TAlarm)
abbrev Y57:Type:=TGraph×(List (List Int))×(List (List Int))×Int
abbrev _root_.Prod.t3 {A0 A1 A2 A3:Type} (x:A0×A1×A2×A3):A3:=x.2.2.2
abbrev _root_.Prod.t4 {A0 A1 A2 A3 A4:Type} (x:A0×A1×A2×A3×A4):A4:=x.2.2.2.2
abbrev _root_.Prod.t5 {A0 A1 A2 A3 A4 A5:Type} (x:A0×A1×A2×A3×A4×A5):A5:=x.2.2.2.2.2
abbrev _root_.Prod.t6 {A0 A1 A2 A3 A4 A5 A6:Type} (x:A0×A1×A2×A3×A4×A5×A6):A6:=x.2.2.2.2.2.2
abbrev _root_.Prod.t7 {A0 A1 A2 A3 A4 A5 A6 A7:Type} (x:A0×A1×A2×A3×A4×A5×A6×A7):A7:=x.2.2.2.2.2.2.2
abbrev _root_.Prod.t8 {A0 A1 A2 A3 A4 A5 A6 A7 A8:Type} (x:A0×A1×A2×A3×A4×A5×A6×A7×A8):A8:=x.2.2.2.2.2.2.2.2
abbrev _root_.Prod.t9 {A0 A1 A2 A3 A4 A5 A6 A7 A8 A9:Type} (x:A0×A1×A2×A3×A4×A5×A6×A7×A8×A9):A9:=x.2.2.2.2.2.2.2.2.2
abbrev _root_.Prod.t10 {A0 A1 A2 A3 A4 A5 A6 A7 A8 A9 A10:Type} (x:A0×A1×A2×A3×A4×A5×A6×A7×A8×A9×A10):A10:=x.2.2.2.2.2.2.2.2.2.2
abbrev _root_.Prod.t11 {A0 A1 A2 A3 A4 A5 A6 A7 A8 A9 A10 A11:Type} (x:A0×A1×A2×A3×A4×A5×A6×A7×A8×A9×A10×A11):A11:=x.2.2.2.2.2.2.2.2.2.2.2
abbrev _root_.Prod.t12 {A0 A1 A2 A3 A4 A5 A6 A7 A8 A9 A10 A11 A12:Type} (x:A0×A1×A2×A3×A4×A5×A6×A7×A8×A9×A10×A11×A12):A12:=x.2.2.2.2.2.2.2.2.2.2.2.2
abbrev _root_.Prod.t13 {A0 A1 A2 A3 A4 A5 A6 A7 A8 A9 A10 A11 A12 A13:Type} (x:A0×A1×A2×A3×A4×A5×A6×A7×A8×A9×A10×A11×A12×A13):A13:=x.2.2.2.2.2.2.2.2.2.2.2.2.2
abbrev _root_.Prod.t14 {A0 A1 A2 A3 A4 A5 A6 A7 A8 A9 A10 A11 A12 A13 A14:Type} (x:A0×A1×A2×A3×A4×A5×A6×A7×A8×A9×A10×A11×A12×A13×A14):A14:=x.2.2.2.2.2.2.2.2.2.2.2.2.2.2
abbrev _root_.Prod.t15 {A0 A1 A2 A3 A4 A5 A6 A7 A8 A9 A10 A11 A12 A13 A14 A15:Type} (x:A0×A1×A2×A3×A4×A5×A6×A7×A8×A9×A10×A11×A12×A13×A14×A15):A15:=x.2.2.2.2.2.2.2.2.2.2.2.2.2.2.2
abbrev _root_.Prod.t16 {A0 A1 A2 A3 A4 A5 A6 A7 A8 A9 A10 A11 A12 A13 A14 A15 A16:Type} (x:A0×A1×A2×A3×A4×A5×A6×A7×A8×A9×A10×A11×A12×A13×A14×A15×A16):A16:=x.2.2.2.2.2.2.2.2.2.2.2.2.2.2.2.2
abbrev _root_.Prod.t17 {A0 A1 A2 A3 A4 A5 A6 A7 A8 A9 A10 A11 A12 A13 A14 A15 A16 A17:Type} (x:A0×A1×A2×A3×A4×A5×A6×A7×A8×A9×A10×A11×A12×A13×A14×A15×A16×A17):A17:=x.2.2.2.2.2.2.2.2.2.2.2.2.2.2.2.2.2
abbrev _root_.Prod.t18 {A0 A1 A2 A3 A4 A5 A6 A7 A8 A9 A10 A11 A12 A13 A14 A15 A16 A17 A18:Type} (x:A0×A1×A2×A3×A4×A5×A6×A7×A8×A9×A10×A11×A12×A13×A14×A15×A16×A17×A18):A18:=x.2.2.2.2.2.2.2.2.2.2.2.2.2.2.2.2.2.2
abbrev _root_.Prod.t19 {A0 A1 A2 A3 A4 A5 A6 A7 A8 A9 A10 A11 A12 A13 A14 A15 A16 A17 A18 A19:Type} (x:A0×A1×A2×A3×A4×A5×A6×A7×A8×A9×A10×A11×A12×A13×A14×A15×A16×A17×A18×A19):A19:=x.2.2.2.2.2.2.2.2.2.2.2.2.2.2.2.2.2.2.2
abbrev _root_.Prod.t20 {A0 A1 A2 A3 A4 A5 A6 A7 A8 A9 A10 A11 A12 A13 A14 A15 A16 A17 A18 A19 A20:Type} (x:A0×A1×A2×A3×A4×A5×A6×A7×A8×A9×A10×A11×A12×A13×A14×A15×A16×A17×A18×A19×A20):A20:=x.2.2.2.2.2.2.2.2.2.2.2.2.2.2.2.2.2.2.2.2
abbrev _root_.Prod.t21 {A0 A1 A2 A3 A4 A5 A6 A7 A8 A9 A10 A11 A12 A13 A14 A15 A16 A17 A18 A19 A20 A21:Type} (x:A0×A1×A2×A3×A4×A5×A6×A7×A8×A9×A10×A11×A12×A13×A14×A15×A16×A17×A18×A19×A20×A21):A21:=x.2.2.2.2.2.2.2.2.2.2.2.2.2.2.2.2.2.2.2.2.2
abbrev _root_.Prod.t22 {A0 A1 A2 A3 A4 A5 A6 A7 A8 A9 A10 A11 A12 A13 A14 A15 A16 A17 A18 A19 A20 A21 A22:Type} (x:A0×A1×A2×A3×A4×A5×A6×A7×A8×A9×A10×A11×A12×A13×A14×A15×A16×A17×A18×A19×A20×A21×A22):A22:=x.2.2.2.2.2.2.2.2.2.2.2.2.2.2.2.2.2.2.2.2.2.2
abbrev _root_.Prod.t23 {A0 A1 A2 A3 A4 A5 A6 A7 A8 A9 A10 A11 A12 A13 A14 A15 A16 A17 A18 A19 A20 A21 A22 A23:Type} (x:A0×A1×A2×A3×A4×A5×A6×A7×A8×A9×A10×A11×A12×A13×A14×A15×A16×A17×A18×A19×A20×A21×A22×A23):A23:=x.2.2.2.2.2.2.2.2.2.2.2.2.2.2.2.2.2.2.2.2.2.2.2
abbrev _root_.Prod.t24 {A0 A1 A2 A3 A4 A5 A6 A7 A8 A9 A10 A11 A12 A13 A14 A15 A16 A17 A18 A19 A20 A21 A22 A23 A24:Type} (x:A0×A1×A2×A3×A4×A5×A6×A7×A8×A9×A10×A11×A12×A13×A14×A15×A16×A17×A18×A19×A20×A21×A22×A23×A24):A24:=x.2.2.2.2.2.2.2.2.2.2.2.2.2.2.2.2.2.2.2.2.2.2.2.2
abbrev _root_.Prod.t25 {A0 A1 A2 A3 A4 A5 A6 A7 A8 A9 A10 A11 A12 A13 A14 A15 A16 A17 A18 A19 A20 A21 A22 A23 A24 A25:Type} (x:A0×A1×A2×A3×A4×A5×A6×A7×A8×A9×A10×A11×A12×A13×A14×A15×A16×A17×A18×A19×A20×A21×A22×A23×A24×A25):A25:=x.2.2.2.2.2.2.2.2.2.2.2.2.2.2.2.2.2.2.2.2.2.2.2.2.2
abbrev _root_.Prod.t26 {A0 A1 A2 A3 A4 A5 A6 A7 A8 A9 A10 A11 A12 A13 A14 A15 A16 A17 A18 A19 A20 A21 A22 A23 A24 A25 A26:Type} (x:A0×A1×A2×A3×A4×A5×A6×A7×A8×A9×A10×A11×A12×A13×A14×A15×A16×A17×A18×A19×A20×A21×A22×A23×A24×A25×A26):A26:=x.2.2.2.2.2.2.2.2.2.2.2.2.2.2.2.2.2.2.2.2.2.2.2.2.2.2
abbrev _root_.Prod.t27 {A0 A1 A2 A3 A4 A5 A6 A7 A8 A9 A10 A11 A12 A13 A14 A15 A16 A17 A18 A19 A20 A21 A22 A23 A24 A25 A26 A27:Type} (x:A0×A1×A2×A3×A4×A5×A6×A7×A8×A9×A10×A11×A12×A13×A14×A15×A16×A17×A18×A19×A20×A21×A22×A23×A24×A25×A26×A27):A27:=x.2.2.2.2.2.2.2.2.2.2.2.2.2.2.2.2.2.2.2.2.2.2.2.2.2.2.2
abbrev _root_.Prod.t28 {A0 A1 A2 A3 A4 A5 A6 A7 A8 A9 A10 A11 A12 A13 A14 A15 A16 A17 A18 A19 A20 A21 A22 A23 A24 A25 A26 A27 A28:Type} (x:A0×A1×A2×A3×A4×A5×A6×A7×A8×A9×A10×A11×A12×A13×A14×A15×A16×A17×A18×A19×A20×A21×A22×A23×A24×A25×A26×A27×A28):A28:=x.2.2.2.2.2.2.2.2.2.2.2.2.2.2.2.2.2.2.2.2.2.2.2.2.2.2.2.2
abbrev q3 {A B C Z:Type} (x:A×B×C×Z):A×B×C:=(x.1,x.2.1,x.2.2.1)
abbrev q4 {A B C D Z:Type} (x:A×B×C×D×Z):A×B×C×D:=(x.1,x.2.1,x.2.2.1,x.2.2.2.1)
abbrev q5 {A B C D E Z:Type} (x:A×B×C×D×E×Z):A×B×C×D×E:=(x.1,x.2.1,x.2.2.1,x.2.2.2.1,x.2.2.2.2.1)
abbrev q6 {A B C D E F Z:Type} (x:A×B×C×D×E×F×Z):A×B×C×D×E×F:=(x.1,x.2.1,x.2.2.1,x.2.2.2.1,x.2.2.2.2.1,x.2.2.2.2.2.1)
abbrev q8 {A B C D E F G H Z:Type} (x:A×B×C×D×E×F×G×H×Z):A×B×C×D×E×F×G×H:=(x.1,x.2.1,x.2.2.1,x.2.2.2.1,x.2.2.2.2.1,x.2.2.2.2.2.1,x.2.2.2.2.2.2.1,x.2.2.2.2.2.2.2.1)
abbrev w3 {A B C:Type} (x:A×B×C):A×B×C×Unit:=(x.1,x.2.1,x.2.2,())
abbrev w4 {A B C D:Type} (x:A×B×C×D):A×B×C×D×Unit:=(x.1,x.2.1,x.2.2.1,x.2.2.2,())
abbrev w6 {A B C D E F:Type} (x:A×B×C×D×E×F):A×B×C×D×E×F×Unit:=(x.1,x.2.1,x.2.2.1,x.2.2.2.1,x.2.2.2.2.1,x.2.2.2.2.2,())
abbrev w8 {A B C D E F G H:Type} (x:A×B×C×D×E×F×G×H):A×B×C×D×E×F×G×H×Unit:=(x.1,x.2.1,x.2.2.1,x.2.2.2.1,x.2.2.2.2.1,x.2.2.2.2.2.1,x.2.2.2.2.2.2.1,x.2.2.2.2.2.2.2,())
end Go.U
namespace Go.U
open Go Go.Proofs
def itoaB (n:Int):ByteArray:=⟨(Lib.itoa n).toArray⟩
def clone {α:Type} (n:Nat) (a:List α):Option (List α):=ask (decide (a.length * n<=70368744177664)&&decide (a.length<9223372036854775808)) (some a)
abbrev ltA:=V.ltA
abbrev sortA:=V.sortA
abbrev sortI:=V.sortI
def f103_m (a:Int×Int):Option ByteArray:=ask (decide (-9223372036854775808<=a.1)&&decide (a.1<=9223372036854775807)&&decide (a.2=10)) (some (itoaB a.1))
def f38_m (a:ByteArray×ByteArray):Option (Int×ByteArray):=ask (decide (a.2.size+a.1.size<=70368744177664)) (some (nt a.1.size,a.2++a.1))
def f41_m (a:ByteArray):Option ByteArray:=some a
def f47_m (a:List Bool):Option (List Bool):=clone 1 a
def f48_m (a:List (Bool×Bool)):Option (List (Bool×Bool)):=clone 2 a
def f49_m (a:List TAlarm):Option (List TAlarm):=clone 16 a
def f51_m (a:List TAlarm):Option (List TAlarm):=ask (decide (a.length<4611686018427387904)) (some (sortA a))
def f46_m (a:List Int):Option (List Int):=ask (decide (a.length<4611686018427387904)) (some (sortI a))
def f45_m (a:Int×Int×List Int):Option (List Int):=ask (decide (0<=a.1)&&decide (a.1<=a.2.1)&&decide (a.2.1<=a.2.2.length)) (some (a.2.2.take a.1.toNat++a.2.2.drop a.2.1.toNat))
def f47_s:FS ((List Bool)) ((List Bool)) where
 sk:=⟨(.cons (.all 0) .nil),[.cells .bool],1⟩
 a:=fun u=>u.2.1
 n:=fun a=>(((),()),(a,()))
 o:=fun Z a r K=>K (.all 1) ⟨[.cells .bool a,.cells .bool r],1⟩
def f47_sp:Spec:=f47_s.sp f47_m
def f48_s:FS ((List (Bool×Bool))) ((List (Bool×Bool))) where
 sk:=⟨(.cons (.all 0) .nil),[.cells (.pair .bool .bool)],1⟩
 a:=fun u=>u.2.1
 n:=fun a=>(((),()),(a,()))
 o:=fun Z a r K=>K (.all 1) ⟨[.cells (.pair .bool .bool) a,.cells (.pair .bool .bool) r],1⟩
def f48_sp:Spec:=f48_s.sp f48_m
def f49_s:FS ((List TAlarm)) ((List TAlarm)) where
 sk:=⟨(.cons (.all 0) .nil),[.cells cAlarm],1⟩
 a:=fun u=>u.2.1
 n:=fun a=>(((),()),(a,()))
 o:=fun Z a r K=>K (.all 1) ⟨[.cells cAlarm a,.cells cAlarm r],1⟩
def f49_sp:Spec:=f49_s.sp f49_m
def f51_s:FS ((List TAlarm)) ((List TAlarm)) where
 sk:=⟨(.cons (.all 0) (.cons (.fn 52 .nil) .nil)),[.cells cAlarm],0⟩
 a:=fun u=>u.2.1
 n:=fun a=>(((),((),())),(a,()))
 o:=fun Z a r K=>K (.tup []) ⟨[.cells cAlarm r],0⟩
def f51_sp:Spec:=f51_s.sp f51_m
def f45_s:FS (Int×Int×(List Int)) ((List Int)) where
 sk:=⟨(.cons (.all 0) (.cons (.int .i64) (.cons (.int .i64) .nil))),[.cells (.int .i64)],0⟩
 a:=fun u=>(u.1.2.1,u.1.2.2.1,u.2.1)
 n:=fun a=>(((),(a.1,(a.2.1,()))),(a.2.2,()))
 o:=fun Z a r K=>K (.all 1) ⟨[.dead,.cells (.int .i64) r],0⟩
def f45_sp:Spec:=f45_s.sp f45_m
def f46_s:FS ((List Int)) ((List Int)) where
 sk:=⟨(.cons (.all 0) .nil),[.cells (.int .i64)],0⟩
 a:=fun u=>u.2.1
 n:=fun a=>(((),()),(a,()))
 o:=fun Z a r K=>K (.tup []) ⟨[.cells (.int .i64) r],0⟩
def f46_sp:Spec:=f46_s.sp f46_m
def f103_s:FS (Int×Int) (ByteArray) where
 sk:=⟨(.cons (.int .i64) (.cons (.int .i64) .nil)),[],0⟩
 a:=fun u=>(u.1.1,u.1.2.1)
 n:=fun a=>((a.1,(a.2,())),())
 o:=fun Z a r K=>K (.str r) ⟨[],0⟩
def f103_sp:Spec:=f103_s.sp f103_m
def f38_s:FS (ByteArray×ByteArray) (Int×ByteArray) where
 sk:=⟨(.cons (.ptr 0 0) (.cons .str .nil)),[.bld (.all 1),.byt],0⟩
 a:=fun u=>(u.1.2.1,u.2.2.1)
 n:=fun a=>(((),(a.1,())),((),(a.2,())))
 o:=fun Z a r K=>K (.tup [.int .i64 r.1,.nili]) ⟨[.bld (.all 2),.dead,.byt r.2],0⟩
def f38_sp:Spec:=f38_s.sp f38_m
def f41_s:FS (ByteArray) (ByteArray) where
 sk:=⟨(.cons (.ptr 0 0) .nil),[.bld (.all 1),.byt],0⟩
 a:=fun u=>u.2.2.1
 n:=fun a=>(((),()),((),(a,())))
 o:=fun Z a r K=>K (.str r) ⟨[.bld (.all 1),.dead],0⟩
def f41_sp:Spec:=f41_s.sp f41_m
theorem f103_ok:OK 1 103 f103_sp:=fun k hk=>by
 obtain ⟨j,rfl⟩:∃ j,k=j+1:=⟨k-1,by omega⟩;refine fi_spec (A:=par) (f:=103) rfl fun X args H K out h=> ?_
 obtain ⟨u,hu,h⟩:=Option.bind_eq_some_iff.1 (show (f103_s.sk.take args H).bind _=some out from h);obtain ⟨h1,h2⟩:=SkA.take_fill hu;obtain ⟨⟨n,b,⟨⟩⟩,⟨⟩⟩:=u;have key:∀ n b:Int,(f103_m (n,b)).bind (fun r=>K (.str r) ⟨[],0⟩)=some out->(-9223372036854775808<=n/\n<=9223372036854775807/\b=10)/\K (.str ⟨(Lib.itoa n).toArray⟩) ⟨[],0⟩=some out:=fun n b h'=>by
  simp only [f103_m,ask] at h';by_cases e1: -9223372036854775808<=n<;>by_cases e2:n<=9223372036854775807<;>by_cases e3:b=10<;>simp [e1,e2,e3] at h'
  exact ⟨⟨e1,e2,e3⟩,h'⟩
 exact ⟨n,b,h1.symm,h2.symm,key n b h⟩
theorem f41_ok:OK 1 41 f41_sp:=fun k hk=>by
 obtain ⟨j,rfl⟩:∃ j,k=j+1:=⟨k-1,by omega⟩;refine str_spec (A:=par) (f:=41) rfl fun X args H K out h=> ?_
 obtain ⟨u,hu,h⟩:=Option.bind_eq_some_iff.1 (show (f41_s.sk.take args H).bind _=some out from h);obtain ⟨h1,h2⟩:=SkA.take_fill hu;obtain ⟨⟨⟨⟩,⟨⟩⟩,⟨⟨⟩,s,⟨⟩⟩⟩:=u;exact ⟨s,h1.symm,h2.symm,h⟩
theorem ws_ty:WsTy par #[72,9]:=⟨72,9,rfl,by kernel_rfl,by kernel_rfl,by kernel_rfl,by kernel_rfl,by kernel_rfl⟩
theorem ws_fn:par.fns 38=some Tryz.f38:=by kernel_rfl
theorem ws_ext:par.ext 38=none:=by kernel_rfl
theorem ws_call (k:Nat):WsCall par (k+2) 38 #[72,9]:=fun H x p q v t H2 h2 h3 hw ha h4 h5 h6=>by
 have hcc:V.call par (k+1) (.fn 67 []) [.ptr x 0 0] H=some (.tup [],V.setBl H x (.cells [[.ptr x 0 0,q]] 2 (some (74,2)))):=by
  have e:V.call par (k+1) (.fn 67 []) [.ptr x 0 0] H=V.ccX 74 [.ptr x 0 0] H:=rfl;rw [e];have hx:H.bl[x]?=some (.cells [[p,q]] 2 (some (74,2))):=h2;simp only [V.ccX,hx];rw [if_pos ⟨trivial,hw,by rcases h3 with rfl|rfl<;>simp [V.okp]⟩]
 have ht1:V.elem? par 72=some 5:=by kernel_rfl
 have e71:par.P.underlying 71=some (.pointer 74):=Tryz.underlying71;have hl1:x<H.bl.length:=by obtain ⟨h,_⟩:=List.getElem?_eq_some_iff.1 h2;exact h
 obtain ⟨fd,hfd,hfo,hft⟩:∃ fd,V.field? par 74 1=some fd/\fd.offset=1/\fd.type=72:=by
  have h:(V.field? par 74 1).map (fun fd=>(fd.offset,fd.type))=some (1,72):=by kernel_rfl
  cases h':V.field? par 74 1 with
  |none=>rw [h'] at h;cases h
  |some fd=>rw [h'] at h;simp at h;exact ⟨fd,rfl,h.1,h.2⟩
 have hsz:V.size par 72=some 1:=by kernel_rfl
 have hstr:par.P.underlying 9=some .string:=Tryz.underlying9;have hb:(V.setBl H x (.cells [[.ptr x 0 0,q]] 2 (some (74,2)))).bl[x]?=some (.cells [[.ptr x 0 0,q]] 2 (some (74,2))):=by rw [vset_get,if_pos rfl,if_pos hl1]
 have hloc:par.loc 38=[]:=by kernel_rfl
 have hfrz:par.frz 38=false:=by kernel_rfl
 generalize V.setBl H x (.cells [[.ptr x 0 0,q]] 2 (some (74,2)))=H1 at *
 unfold V.call;rw [ws_ext,ws_fn];have hag:V.isAgg par 72=some false:=by kernel_rfl
 have hcv:v.cells?=some [v]:=by cases v<;>first|rfl|simp [V.AV.isOne] at h6
 have reg:∀ (call:V.Callee) (locs:List Nat) (n:Nat) (os:Array Oper) (s:V.S),V.region par call locs n os false s=V.ops par call locs n os os.toList s:=fun _ _ _ _ _=>rfl
 simp [Tryz.f38,hloc,hfrz,V.code,reg,V.ops,V.guardOn,V.op,V.operand,V.val,V.put,V.get,V.vals,V.argEnv,V.retH,V.ret1,hcc,V.constAV,hfd,hfo,hft,hsz,V.addCell,V.load,V.rowAt,hb,V.part,V.builtin,ha,V.store,h4,h5,hw,h6,hcv,hag,V.splice,hstr,V.results,V.result]
theorem f38_ok:OK 2 38 f38_sp:=fun k hk=>by
 obtain ⟨j,rfl⟩:∃ j,k=j+2:=⟨k-2,by omega⟩;refine ws_spec (A:=par) (k:=j+1) (f:=38) ws_ty (ws_call j) (fun X args H K out h=> ?_) (fun cs vs H=>by unfold V.call;simp only [List.append_nil]);obtain ⟨u,hu,h⟩:=Option.bind_eq_some_iff.1 (show (f38_s.sk.take args H).bind _=some out from h);obtain ⟨h1,h2⟩:=SkA.take_fill hu;obtain ⟨⟨⟨⟩,t,⟨⟩⟩,⟨⟨⟩,s,⟨⟩⟩⟩:=u;have key:∀ s t:ByteArray,(f38_m (t,s)).bind (fun r=>K (.tup [.int .i64 r.1,.nili]) ⟨[.bld (.all 2),.dead,.byt r.2],0⟩)=some out->s.size+t.size<=70368744177664/\K (.tup [.int .i64 t.size,.nili]) ⟨[.bld (.all 2),.dead,.byt (s++t)],0⟩=some out:=fun s t h'=>by
  simp only [f38_m,ask] at h';by_cases e1:s.size+t.size<=70368744177664<;>simp [e1] at h'
  exact ⟨e1,h'⟩
 obtain ⟨k1,k2⟩:=key s t h;exact ⟨s,t,h1.symm,h2.symm,k1,k2⟩
theorem clone_key {α X:Type} {n:Nat} {l:List α} {g:List α->Option X} {out:X} (h:(clone n l).bind g=some out):(l.length * n<=70368744177664/\l.length<9223372036854775808)/\g l=some out:=by
 unfold clone at h;by_cases e1:l.length * n<=70368744177664<;>by_cases e2:l.length<9223372036854775808<;>simp [ask,e1,e2] at h
 exact ⟨⟨e1,e2⟩,h⟩
theorem cl47 (k:Nat):CloneCall par (k+1) 47 .bool 1:=by
 have hloc:par.loc 47=[]:=by kernel_rfl
 have hfrz:par.frz 47=false:=by kernel_rfl
 have hext:par.ext 47=none:=by kernel_rfl
 have hfn:par.fns 47=some Tryz.f47:=by kernel_rfl
 obtain ⟨e,z,he,hz,hzl,hsz,hby⟩:∃ e z,V.elem? par 33=some e/\V.zero par e=some z/\z.length=1/\V.size par e=some 1/\V.bytes par e=some 1:=⟨4,[.bool false],by kernel_rfl,by kernel_rfl,rfl,by kernel_rfl,by kernel_rfl⟩;have hu:par.P.underlying 33=some (.slice e):=by
   have:=V.elem_info he;exact this
 have reg:∀ (call:V.Callee) (locs:List Nat) (n:Nat) (os:Array Oper) (s:V.S),V.region par call locs n os false s=V.ops par call locs n os os.toList s:=fun _ _ _ _ _=>rfl
 have hb1:∀ H:V.AH,V.buildSlice par H 33 0 []=some (.emp,H):=fun H=>by
   simp [V.buildSlice,he,hz,hzl,hsz]
 have hap0:∀ (H:V.AH) (x y:V.AV),V.rowsOf H x=some []->V.rowsOf H y=some []->(∀ s,y≠ .str s)->V.append par H #[33,33] x y=some (x,H):=fun H x y h1 h2 h3=>by
   cases y<;>first|exact absurd rfl (h3 _)|simp [V.append,he,hz,hby,hzl,hsz,hu,h1,h2]
 have q1:V.eqOp par 33 .nils .nils=some true:=by simp [V.eqOp,hu]
 have q2:V.eqOp par 33 .emp .nils=some false:=by simp [V.eqOp,hu]
 have q3:∀ x r n,V.eqOp par 33 (.sl x r n) .nils=some false:=fun x r n=>by simp [V.eqOp,hu]
 refine ⟨fun H=> ?_,fun H=> ?_,fun H x rows ty hx=> ?_,fun H x n rows ty hx h0 hn hall hb hlt=> ?_⟩
 · unfold V.call;rw [hext,hfn];simp [Tryz.f47,hloc,hfrz,V.code,reg,V.ops,V.guardOn,V.op,V.operand,V.val,V.put,V.get,V.argEnv,V.retH,V.ret1,V.constAV,V.results,V.result,V.binop,q1]
 · have ha:=hap0 H .emp .emp rfl rfl (fun s e=>by cases e);unfold V.call;rw [hext,hfn];simp [Tryz.f47,hloc,hfrz,V.code,reg,V.ops,V.guardOn,V.op,V.operand,V.val,V.vals,V.parts,V.put,V.get,V.argEnv,V.retH,V.ret1,V.constAV,V.results,V.result,V.binop,V.builtin,hb1,V.litOp,q2,ha]
 · have ha:=hap0 H .emp (.sl x 0 0) rfl (by simp [V.rowsOf,hx]) (fun s e=>by cases e);unfold V.call;rw [hext,hfn];simp [Tryz.f47,hloc,hfrz,V.code,reg,V.ops,V.guardOn,V.op,V.operand,V.val,V.vals,V.parts,V.put,V.get,V.argEnv,V.retH,V.ret1,V.constAV,V.results,V.result,V.binop,V.builtin,hb1,V.litOp,q3,ha]
 · have ha:V.append par H #[33,33] .emp (.sl x 0 n)=some (.sl H.bl.length 0 n,V.push H (.cells (rows.take n) 1 (some (e,1)))):=by
    have hl:(rows.take n).length=n:=by simp;omega
    have hr:V.rowsOf H (.sl x 0 n)=some (rows.take n):=by simp [V.rowsOf,hx,hn]
    simp only [V.append,List.getElem?_toArray,List.getElem?_cons_zero,List.getElem?_cons_succ,Option.bind_some,he,hz,hby,hzl,hsz,hu,hr,show V.rowsOf H .emp=some [] from rfl,List.length_nil,Nat.zero_add,hl];rw [if_pos ⟨hb,hlt,by decide,trivial,hall⟩,if_neg (by omega)]
   refine ⟨some (e,1),?_⟩;unfold V.call;rw [hext,hfn];simp [Tryz.f47,hloc,hfrz,V.code,reg,V.ops,V.guardOn,V.op,V.operand,V.val,V.vals,V.parts,V.put,V.get,V.argEnv,V.retH,V.ret1,V.constAV,V.results,V.result,V.binop,V.builtin,hb1,V.litOp,q3,ha,width]
theorem f47_ok:OK 1 47 f47_sp:=fun k hk=>by
 obtain ⟨j,rfl⟩:∃ j,k=j+1:=⟨k-1,by omega⟩;refine clone_spec (A:=par) (k:=j) (f:=47) (cl47 j) (fun cs vs H=>by unfold V.call;simp only [List.append_nil]) fun X args H K out h=> ?_
 obtain ⟨u,hu,h⟩:=Option.bind_eq_some_iff.1 (show (f47_s.sk.take args H).bind _=some out from h);obtain ⟨h1,h2⟩:=SkA.take_fill hu;obtain ⟨⟨⟨⟩,⟨⟩⟩,⟨l,⟨⟩⟩⟩:=u;obtain ⟨k1,k2⟩:=clone_key (n:=1) (l:=(l:List Bool)) (g:=fun r=>K (.all 1) ⟨[.cells .bool l,.cells .bool r],1⟩) h;exact ⟨l,h1.symm,h2.symm,k1,k2⟩
theorem cl48 (k:Nat):CloneCall par (k+1) 48 (.pair .bool .bool) 2:=by
 have hloc:par.loc 48=[]:=by kernel_rfl
 have hfrz:par.frz 48=false:=by kernel_rfl
 have hext:par.ext 48=none:=by kernel_rfl
 have hfn:par.fns 48=some Tryz.f48:=by kernel_rfl
 obtain ⟨e,z,he,hz,hzl,hsz,hby⟩:∃ e z,V.elem? par 34=some e/\V.zero par e=some z/\z.length=2/\V.size par e=some 2/\V.bytes par e=some 2:=⟨43,[.bool false,.bool false],by kernel_rfl,by kernel_rfl,rfl,by kernel_rfl,by kernel_rfl⟩;have hu:par.P.underlying 34=some (.slice e):=by
   have:=V.elem_info he;exact this
 have reg:∀ (call:V.Callee) (locs:List Nat) (n:Nat) (os:Array Oper) (s:V.S),V.region par call locs n os false s=V.ops par call locs n os os.toList s:=fun _ _ _ _ _=>rfl
 have hb1:∀ H:V.AH,V.buildSlice par H 34 0 []=some (.emp,H):=fun H=>by
   simp [V.buildSlice,he,hz,hzl,hsz]
 have hap0:∀ (H:V.AH) (x y:V.AV),V.rowsOf H x=some []->V.rowsOf H y=some []->(∀ s,y≠ .str s)->V.append par H #[34,34] x y=some (x,H):=fun H x y h1 h2 h3=>by
   cases y<;>first|exact absurd rfl (h3 _)|simp [V.append,he,hz,hby,hzl,hsz,hu,h1,h2]
 have q1:V.eqOp par 34 .nils .nils=some true:=by simp [V.eqOp,hu]
 have q2:V.eqOp par 34 .emp .nils=some false:=by simp [V.eqOp,hu]
 have q3:∀ x r n,V.eqOp par 34 (.sl x r n) .nils=some false:=fun x r n=>by simp [V.eqOp,hu]
 refine ⟨fun H=> ?_,fun H=> ?_,fun H x rows ty hx=> ?_,fun H x n rows ty hx h0 hn hall hb hlt=> ?_⟩
 · unfold V.call;rw [hext,hfn];simp [Tryz.f48,hloc,hfrz,V.code,reg,V.ops,V.guardOn,V.op,V.operand,V.val,V.put,V.get,V.argEnv,V.retH,V.ret1,V.constAV,V.results,V.result,V.binop,q1]
 · have ha:=hap0 H .emp .emp rfl rfl (fun s e=>by cases e);unfold V.call;rw [hext,hfn];simp [Tryz.f48,hloc,hfrz,V.code,reg,V.ops,V.guardOn,V.op,V.operand,V.val,V.vals,V.parts,V.put,V.get,V.argEnv,V.retH,V.ret1,V.constAV,V.results,V.result,V.binop,V.builtin,hb1,V.litOp,q2,ha]
 · have ha:=hap0 H .emp (.sl x 0 0) rfl (by simp [V.rowsOf,hx]) (fun s e=>by cases e);unfold V.call;rw [hext,hfn];simp [Tryz.f48,hloc,hfrz,V.code,reg,V.ops,V.guardOn,V.op,V.operand,V.val,V.vals,V.parts,V.put,V.get,V.argEnv,V.retH,V.ret1,V.constAV,V.results,V.result,V.binop,V.builtin,hb1,V.litOp,q3,ha]
 · have ha:V.append par H #[34,34] .emp (.sl x 0 n)=some (.sl H.bl.length 0 n,V.push H (.cells (rows.take n) 2 (some (e,1)))):=by
    have hl:(rows.take n).length=n:=by simp;omega
    have hr:V.rowsOf H (.sl x 0 n)=some (rows.take n):=by simp [V.rowsOf,hx,hn]
    simp only [V.append,List.getElem?_toArray,List.getElem?_cons_zero,List.getElem?_cons_succ,Option.bind_some,he,hz,hby,hzl,hsz,hu,hr,show V.rowsOf H .emp=some [] from rfl,List.length_nil,Nat.zero_add,hl];rw [if_pos ⟨hb,hlt,by decide,trivial,hall⟩,if_neg (by omega)]
   refine ⟨some (e,1),?_⟩;unfold V.call;rw [hext,hfn];simp [Tryz.f48,hloc,hfrz,V.code,reg,V.ops,V.guardOn,V.op,V.operand,V.val,V.vals,V.parts,V.put,V.get,V.argEnv,V.retH,V.ret1,V.constAV,V.results,V.result,V.binop,V.builtin,hb1,V.litOp,q3,ha,width]
theorem f48_ok:OK 1 48 f48_sp:=fun k hk=>by
 obtain ⟨j,rfl⟩:∃ j,k=j+1:=⟨k-1,by omega⟩;refine clone_spec (A:=par) (k:=j) (f:=48) (cl48 j) (fun cs vs H=>by unfold V.call;simp only [List.append_nil]) fun X args H K out h=> ?_
 obtain ⟨u,hu,h⟩:=Option.bind_eq_some_iff.1 (show (f48_s.sk.take args H).bind _=some out from h);obtain ⟨h1,h2⟩:=SkA.take_fill hu;obtain ⟨⟨⟨⟩,⟨⟩⟩,⟨l,⟨⟩⟩⟩:=u;obtain ⟨k1,k2⟩:=clone_key (n:=2) (l:=(l:List (Bool×Bool))) (g:=fun r=>K (.all 1) ⟨[.cells (.pair .bool .bool) l,.cells (.pair .bool .bool) r],1⟩) h;exact ⟨l,h1.symm,h2.symm,k1,k2⟩
theorem cl49 (k:Nat):CloneCall par (k+1) 49 cAlarm 16:=by
 have hloc:par.loc 49=[]:=by kernel_rfl
 have hfrz:par.frz 49=false:=by kernel_rfl
 have hext:par.ext 49=none:=by kernel_rfl
 have hfn:par.fns 49=some Tryz.f49:=by kernel_rfl
 obtain ⟨e,z,he,hz,hzl,hsz,hby⟩:∃ e z,V.elem? par 35=some e/\V.zero par e=some z/\z.length=2/\V.size par e=some 2/\V.bytes par e=some 16:=⟨59,[.int .i64 0,.int .i64 0],by kernel_rfl,by kernel_rfl,rfl,by kernel_rfl,by kernel_rfl⟩;have hu:par.P.underlying 35=some (.slice e):=by
   have:=V.elem_info he;exact this
 have reg:∀ (call:V.Callee) (locs:List Nat) (n:Nat) (os:Array Oper) (s:V.S),V.region par call locs n os false s=V.ops par call locs n os os.toList s:=fun _ _ _ _ _=>rfl
 have hb1:∀ H:V.AH,V.buildSlice par H 35 0 []=some (.emp,H):=fun H=>by
   simp [V.buildSlice,he,hz,hzl,hsz]
 have hap0:∀ (H:V.AH) (x y:V.AV),V.rowsOf H x=some []->V.rowsOf H y=some []->(∀ s,y≠ .str s)->V.append par H #[35,35] x y=some (x,H):=fun H x y h1 h2 h3=>by
   cases y<;>first|exact absurd rfl (h3 _)|simp [V.append,he,hz,hby,hzl,hsz,hu,h1,h2]
 have q1:V.eqOp par 35 .nils .nils=some true:=by simp [V.eqOp,hu]
 have q2:V.eqOp par 35 .emp .nils=some false:=by simp [V.eqOp,hu]
 have q3:∀ x r n,V.eqOp par 35 (.sl x r n) .nils=some false:=fun x r n=>by simp [V.eqOp,hu]
 refine ⟨fun H=> ?_,fun H=> ?_,fun H x rows ty hx=> ?_,fun H x n rows ty hx h0 hn hall hb hlt=> ?_⟩
 · unfold V.call;rw [hext,hfn];simp [Tryz.f49,hloc,hfrz,V.code,reg,V.ops,V.guardOn,V.op,V.operand,V.val,V.put,V.get,V.argEnv,V.retH,V.ret1,V.constAV,V.results,V.result,V.binop,q1]
 · have ha:=hap0 H .emp .emp rfl rfl (fun s e=>by cases e);unfold V.call;rw [hext,hfn];simp [Tryz.f49,hloc,hfrz,V.code,reg,V.ops,V.guardOn,V.op,V.operand,V.val,V.vals,V.parts,V.put,V.get,V.argEnv,V.retH,V.ret1,V.constAV,V.results,V.result,V.binop,V.builtin,hb1,V.litOp,q2,ha]
 · have ha:=hap0 H .emp (.sl x 0 0) rfl (by simp [V.rowsOf,hx]) (fun s e=>by cases e);unfold V.call;rw [hext,hfn];simp [Tryz.f49,hloc,hfrz,V.code,reg,V.ops,V.guardOn,V.op,V.operand,V.val,V.vals,V.parts,V.put,V.get,V.argEnv,V.retH,V.ret1,V.constAV,V.results,V.result,V.binop,V.builtin,hb1,V.litOp,q3,ha]
 · have ha:V.append par H #[35,35] .emp (.sl x 0 n)=some (.sl H.bl.length 0 n,V.push H (.cells (rows.take n) 2 (some (e,1)))):=by
    have hl:(rows.take n).length=n:=by simp;omega
    have hr:V.rowsOf H (.sl x 0 n)=some (rows.take n):=by simp [V.rowsOf,hx,hn]
    simp only [V.append,List.getElem?_toArray,List.getElem?_cons_zero,List.getElem?_cons_succ,Option.bind_some,he,hz,hby,hzl,hsz,hu,hr,show V.rowsOf H .emp=some [] from rfl,List.length_nil,Nat.zero_add,hl];rw [if_pos ⟨hb,hlt,by decide,trivial,hall⟩,if_neg (by omega)]
   refine ⟨some (e,1),?_⟩;unfold V.call;rw [hext,hfn];simp [Tryz.f49,hloc,hfrz,V.code,reg,V.ops,V.guardOn,V.op,V.operand,V.val,V.vals,V.parts,V.put,V.get,V.argEnv,V.retH,V.ret1,V.constAV,V.results,V.result,V.binop,V.builtin,hb1,V.litOp,q3,ha,width]
theorem f49_ok:OK 1 49 f49_sp:=fun k hk=>by
 obtain ⟨j,rfl⟩:∃ j,k=j+1:=⟨k-1,by omega⟩;refine clone_spec (A:=par) (k:=j) (f:=49) (cl49 j) (fun cs vs H=>by unfold V.call;simp only [List.append_nil]) fun X args H K out h=> ?_
 obtain ⟨u,hu,h⟩:=Option.bind_eq_some_iff.1 (show (f49_s.sk.take args H).bind _=some out from h);obtain ⟨h1,h2⟩:=SkA.take_fill hu;obtain ⟨⟨⟨⟩,⟨⟩⟩,⟨l,⟨⟩⟩⟩:=u;obtain ⟨k1,k2⟩:=clone_key (n:=16) (l:=(l:List TAlarm)) (g:=fun r=>K (.all 1) ⟨[.cells cAlarm l,.cells cAlarm r],1⟩) h;exact ⟨l,h1.symm,h2.symm,k1,k2⟩
theorem f46_ok:OK 1 46 f46_sp:=fun k hk=>by
 obtain ⟨j,rfl⟩:∃ j,k=j+1:=⟨k-1,by omega⟩;refine sort1_spec (A:=par) (k:=j) (f:=46) (srt:=V.sortI) V.sortI_len rfl fun X args H K out h=> ?_
 obtain ⟨u,hu,h⟩:=Option.bind_eq_some_iff.1 (show (f46_s.sk.take args H).bind _=some out from h);obtain ⟨h1,h2⟩:=SkA.take_fill hu;obtain ⟨⟨⟨⟩,⟨⟩⟩,⟨l,⟨⟩⟩⟩:=u;have key:∀ l:List Int,(f46_m l).bind (fun r=>K (.tup []) ⟨[.cells cI r],0⟩)=some out->l.length<4611686018427387904/\K (.tup []) ⟨[.cells cI (sortI l)],0⟩=some out:=fun l h'=>by
  simp only [f46_m,ask] at h';by_cases e1:l.length<4611686018427387904<;>simp [e1] at h'
  exact ⟨e1,h'⟩
 obtain ⟨k1,k2⟩:=key l h;exact ⟨l,h1.symm,h2.symm,k1,k2⟩
theorem f51_ok:OK 1 51 f51_sp:=fun k hk=>by
 obtain ⟨j,rfl⟩:∃ j,k=j+1:=⟨k-1,by omega⟩;refine sort2_spec (A:=par) (k:=j) (f:=51) (srt:=V.sortA) V.sortA_len rfl fun X args H K out h=> ?_
 obtain ⟨u,hu,h⟩:=Option.bind_eq_some_iff.1 (show (f51_s.sk.take args H).bind _=some out from h);obtain ⟨h1,h2⟩:=SkA.take_fill hu;obtain ⟨⟨⟨⟩,⟨⟨⟩,⟨⟩⟩⟩,⟨l,⟨⟩⟩⟩:=u;have key:∀ l:List TAlarm,(f51_m l).bind (fun r=>K (.tup []) ⟨[.cells cAlarm r],0⟩)=some out->l.length<4611686018427387904/\K (.tup []) ⟨[.cells cAlarm (sortA l)],0⟩=some out:=fun l h'=>by
  simp only [f51_m,ask] at h';by_cases e1:l.length<4611686018427387904<;>simp [e1] at h'
  exact ⟨e1,h'⟩
 obtain ⟨k1,k2⟩:=key l h;exact ⟨l,h1.symm,h2.symm,k1,k2⟩
theorem f45_ok:OK 1 45 f45_sp:=fun k hk=>by
 obtain ⟨j,rfl⟩:∃ j,k=j+1:=⟨k-1,by omega⟩;refine del_spec (A:=par) (k:=j) (f:=45) rfl fun X args H K out h=> ?_
 obtain ⟨u,hu,h⟩:=Option.bind_eq_some_iff.1 (show (f45_s.sk.take args H).bind _=some out from h);obtain ⟨h1,h2⟩:=SkA.take_fill hu;obtain ⟨⟨⟨⟩,x,y,⟨⟩⟩,⟨l,⟨⟩⟩⟩:=u;have key:∀ (x y:Int) (l:List Int),(f45_m (x,y,l)).bind (fun r=>K (.all 1) ⟨[.dead,.cells cI r],0⟩)=some out->(0<=x/\x<=y/\y<=l.length)/\K (.all 1) ⟨[.dead,.cells cI (l.take x.toNat++l.drop y.toNat)],0⟩=some out:=fun x y l h'=>by
  simp only [f45_m,ask] at h';by_cases e1:0<=x<;>by_cases e2:x<=y<;>by_cases e3:y<=l.length<;>simp [e1,e2,e3] at h'
  exact ⟨⟨e1,e2,e3⟩,h'⟩
 obtain ⟨k1,k2⟩:=key x y l h;exact ⟨l,x,y,h1.symm,h2.symm,k1,k2⟩
end Go.U
section
set_option maxRecDepth 100000
namespace Go.U
open Go Go.Proofs
noncomputable section
variable {C:V.Callee}
def f58_s:FS (Int) (Bool) where
 sk:=⟨(.cons (.int .i64) .nil),[],0⟩
 a:=fun u=>u.1.1
 n:=fun a=>((a,()),())
 o:=fun Z a r K=>K (.bool r) ⟨[],0⟩
def f58_c {X:Type} (a:Int) (K:Bool->Option X):Option X:=
 cond (decide ((1:Int)<=a))
 (K (decide (a<=(3:Int))))
 (K false)
def f58_m:=fun a=>f58_c a some
def f58_sp:Spec:=f58_s.sp f58_m
noncomputable def f58_e:Env:=⟨fun k=>[].contains k,callsL [],fun X k s K=>none⟩
theorem f58_ok:OK (1) 58 (f58_s.sp f58_m):=
 fO (d:=0) (env:=f58_e) (callsL_sim cn) (fn:=Tryz.f58) (mc:=@f58_c) (by intros;simp only [f58_m,f58_c,nn])
def f59_s:FS (Int) (Int) where
 sk:=⟨(.cons (.int .i64) .nil),[],0⟩
 a:=fun u=>u.1.1
 n:=fun a=>((a,()),())
 o:=fun Z a r K=>K (.int .i64 r) ⟨[],0⟩
def f59_c {X:Type} (a:Int) (K:Int->Option X):Option X:=
 cond (decide (a=(1:Int)))
 (K (-128))
 (cond (decide (a=(2:Int)))
 (K (-32768))
 (K (-2147483648)))
def f59_m:=fun a=>f59_c a some
def f59_sp:Spec:=f59_s.sp f59_m
noncomputable def f59_e:Env:=⟨fun k=>[].contains k,callsL [],fun X k s K=>none⟩
theorem f59_ok:OK (1) 59 (f59_s.sp f59_m):=
 fO (d:=0) (env:=f59_e) (callsL_sim cn) (fn:=Tryz.f59) (mc:=@f59_c) (by intros;simp only [f59_m,f59_c,nn])
def f60_s:FS (Int) (Int) where
 sk:=⟨(.cons (.int .i64) .nil),[],0⟩
 a:=fun u=>u.1.1
 n:=fun a=>((a,()),())
 o:=fun Z a r K=>K (.int .i64 r) ⟨[],0⟩
def f60_c {X:Type} (a:Int) (K:Int->Option X):Option X:=
 (f59_m a).bind fun r1=>
 K (wi64 ((wi64 ((0:Int)-r1))-(1:Int)))
def f60_m:=fun a=>f60_c a some
def f60_sp:Spec:=f60_s.sp f60_m
noncomputable def f60_e:Env:=⟨fun k=>[].contains k,callsL [(59,f59_sp)],fun X k s K=>none⟩
theorem f60_ok:OK (2) 60 (f60_s.sp f60_m):=
 fO (d:=1) (env:=f60_e) (callsL_sim (cc f59_ok cn)) (fn:=Tryz.f60) (mc:=@f60_c) (by intros;simp only [f60_m,f60_c,nn])
def f27_s:FS (TGraph) (Bool) where
 sk:=⟨(.cons (.agg kGraph) .nil),[],0⟩
 a:=fun u=>(q8 u.1.1)
 n:=fun a=>(((w8 a),()),())
 o:=fun Z a r K=>K (.bool r) ⟨[],0⟩
def f27_l4:LD ((List TAlarm)×Int×TGraph) (Int) ((Unit) ⊕ (Unit)) where
 sk:=⟨[(1,.loc 0 0),(52,.v (.lit cAlarm)),(53,.v (.int .i64)),(54,.v (.int .i64))],[kGraph],[],0,0⟩
 p:=fun u=>(u.1.1,u.1.2.1,(q8 u.2.1.1))
 t:=fun u=>u.1.2.2.1
 n:=fun p t=>((p.1,(p.2.1,(t,()))),(((w8 p.2.2),()),()))
 st:=fun Y p t ki ke=>cond (decide (t<p.2.1))
  (ask (V.inRange t (List.length p.1)) (cond (decide ((gx p.1 (Int.toNat t) dAlarm).2<(0:Int)))
  (ke (.inl ()))
  (cond (decide ((62:Int)<(gx p.1 (Int.toNat t) dAlarm).2))
  (ke (.inl ()))
  (cond (!(decide ((Int.tmod (gx p.1 (Int.toNat t) dAlarm).2 2)=(0:Int))))
  (ke (.inl ()))
  (ki ((wi64 (t+(1:Int)))))))))
  (ke (.inr (())))
 o:=fun Z p e K=>Sum.elim (fun e=>K .ret ⟨[(2,.v (.bool false))],[],⟨[],0⟩,0⟩) (fun e=>K (.exit 0) ⟨[(1,.loc 0 0)],[[.lit cInstr p.2.2.1,.int .i64 p.t3.1,.int .i64 p.t4.1,.int .i64 p.t5.1,.lit cInput p.t6.1,.lit cScalar p.t7.1,.lit cInput p.t8.1,.lit cAlarm p.t9]],⟨[],0⟩,0⟩) e
 pol:=⟨[1,52,53,54],[],[],[]⟩
 pe:=[(.ret,⟨[2],[],[],[]⟩),(.exit 0,⟨[1],[],[],[]⟩)]
def f27_l10:LD ((List TInput)×Int×TGraph) (Int) ((Unit) ⊕ (Unit)) where
 sk:=⟨[(1,.loc 0 0),(74,.v (.lit cInput)),(75,.v (.int .i64)),(76,.v (.int .i64))],[kGraph],[],0,0⟩
 p:=fun u=>(u.1.1,u.1.2.1,(q8 u.2.1.1))
 t:=fun u=>u.1.2.2.1
 n:=fun p t=>((p.1,(p.2.1,(t,()))),(((w8 p.2.2),()),()))
 st:=fun Y p t ki ke=>cond (decide (t<p.2.1))
  (ask (V.inRange t (List.length p.1)) ((f58_m (gx p.1 (Int.toNat t) dInput).2.1).bind fun r1=>
  cond (!r1)
  (ke (.inl ()))
  (cond (decide ((gx p.1 (Int.toNat t) dInput).2.2.2<(gx p.1 (Int.toNat t) dInput).2.2.1))
  (ke (.inl ()))
  ((f59_m (gx p.1 (Int.toNat t) dInput).2.1).bind fun r2=>
  cond (decide ((gx p.1 (Int.toNat t) dInput).2.2.1<r2))
  (ke (.inl ()))
  ((f60_m (gx p.1 (Int.toNat t) dInput).2.1).bind fun r3=>
  cond (decide (r3<(gx p.1 (Int.toNat t) dInput).2.2.2))
  (ke (.inl ()))
  (ki ((wi64 (t+(1:Int))))))))))
  (ke (.inr (())))
 o:=fun Z p e K=>Sum.elim (fun e=>K .ret ⟨[(2,.v (.bool false))],[],⟨[],0⟩,0⟩) (fun e=>K (.exit 2) ⟨[(1,.loc 0 0)],[[.lit cInstr p.2.2.1,.int .i64 p.t3.1,.int .i64 p.t4.1,.int .i64 p.t5.1,.lit cInput p.t6.1,.lit cScalar p.t7.1,.lit cInput p.t8.1,.lit cAlarm p.t9]],⟨[],0⟩,0⟩) e
 pol:=⟨[1,74,75,76],[],[],[]⟩
 pe:=[(.ret,⟨[2],[],[],[]⟩),(.exit 2,⟨[1],[],[],[]⟩)]
def f27_l16:LD ((List TScalar)×Int×TGraph) (Int) ((Unit) ⊕ (Unit)) where
 sk:=⟨[(1,.loc 0 0),(109,.v (.lit cScalar)),(110,.v (.int .i64)),(111,.v (.int .i64))],[kGraph],[],0,0⟩
 p:=fun u=>(u.1.1,u.1.2.1,(q8 u.2.1.1))
 t:=fun u=>u.1.2.2.1
 n:=fun p t=>((p.1,(p.2.1,(t,()))),(((w8 p.2.2),()),()))
 st:=fun Y p t ki ke=>cond (decide (t<p.2.1))
  (ask (V.inRange t (List.length p.1)) ((f58_m (gx p.1 (Int.toNat t) dScalar).2.1).bind fun r1=>
  cond (!r1)
  (ke (.inl ()))
  ((f59_m (gx p.1 (Int.toNat t) dScalar).2.1).bind fun r2=>
  cond (decide ((gx p.1 (Int.toNat t) dScalar).2.2<r2))
  (ke (.inl ()))
  ((f60_m (gx p.1 (Int.toNat t) dScalar).2.1).bind fun r3=>
  cond (decide (r3<(gx p.1 (Int.toNat t) dScalar).2.2))
  (ke (.inl ()))
  (ki ((wi64 (t+(1:Int)))))))))
  (ke (.inr (())))
 o:=fun Z p e K=>Sum.elim (fun e=>K .ret ⟨[(2,.v (.bool false))],[],⟨[],0⟩,0⟩) (fun e=>K (.exit 4) ⟨[(1,.loc 0 0)],[[.lit cInstr p.2.2.1,.int .i64 p.t3.1,.int .i64 p.t4.1,.int .i64 p.t5.1,.lit cInput p.t6.1,.lit cScalar p.t7.1,.lit cInput p.t8.1,.lit cAlarm p.t9]],⟨[],0⟩,0⟩) e
 pol:=⟨[1,109,110,111],[],[],[]⟩
 pe:=[(.ret,⟨[2],[],[],[]⟩),(.exit 4,⟨[1],[],[],[]⟩)]
def f27_l22:LD ((List TInput)×Int) (Int) ((Unit) ⊕ (Unit)) where
 sk:=⟨[(137,.v (.lit cInput)),(138,.v (.int .i64)),(139,.v (.int .i64))],[],[],0,0⟩
 p:=fun u=>(u.1.1,u.1.2.1)
 t:=fun u=>u.1.2.2.1
 n:=fun p t=>((p.1,(p.2,(t,()))),((),()))
 st:=fun Y p t ki ke=>cond (decide (t<p.2))
  (ask (V.inRange t (List.length p.1)) ((f58_m (gx p.1 (Int.toNat t) dInput).2.1).bind fun r1=>
  cond (!r1)
  (ke (.inl ()))
  ((f59_m (gx p.1 (Int.toNat t) dInput).2.1).bind fun r2=>
  cond (decide ((gx p.1 (Int.toNat t) dInput).2.2.2<r2))
  (ke (.inl ()))
  ((f60_m (gx p.1 (Int.toNat t) dInput).2.1).bind fun r3=>
  cond (decide (r3<(gx p.1 (Int.toNat t) dInput).2.2.2))
  (ke (.inl ()))
  (cond (decide ((gx p.1 (Int.toNat t) dInput).2.2.1<(1:Int)))
  (ke (.inl ()))
  (cond (decide ((256:Int)<(gx p.1 (Int.toNat t) dInput).2.2.1))
  (ke (.inl ()))
  (ki ((wi64 (t+(1:Int)))))))))))
  (ke (.inr (())))
 o:=fun Z p e K=>Sum.elim (fun e=>K .ret ⟨[(2,.v (.bool false))],[],⟨[],0⟩,0⟩) (fun e=>K (.exit 6) ⟨[],[],⟨[],0⟩,0⟩) e
 pol:=⟨[137,138,139],[],[],[]⟩
 pe:=[(.ret,⟨[2],[],[],[]⟩),(.exit 6,⟨[],[],[],[]⟩)]
def f27_c {X:Type} (a:TGraph) (K:Bool->Option X):Option X:=
 cond (decide ((32:Int)<(nt (List.length a.2.2.2.2.1))))
 (K false)
 (cond (decide ((64:Int)<(nt (List.length a.2.2.2.2.2.1))))
 (K false)
 (cond (decide ((16:Int)<(nt (List.length a.2.2.2.2.2.2.1))))
 (K false)
 (cond (decide (a.2.2.2.1<(0:Int)))
 (K false)
 (cond (decide ((2147483647:Int)<a.2.2.2.1))
 (K false)
 (cond (decide ((nt (List.length a.2.2.2.2.2.2.2))<(1:Int)))
 (K false)
 (ask (V.inRange 0 (List.length a.2.2.2.2.2.2.2)) (cond (!((decide ((gx a.2.2.2.2.2.2.2 0 dAlarm).1=(0:Int)))&&((decide ((gx a.2.2.2.2.2.2.2 0 dAlarm).2=(0:Int)))&&true)))
 (K false)
 ((loopAll (f27_l4.m (a.2.2.2.2.2.2.2,(nt (List.length a.2.2.2.2.2.2.2)),a)) 0).bind fun e1=>
 Sum.elim (fun e2=>K false)
 (fun e3=>(loopAll (f27_l10.m (a.2.2.2.2.1,(nt (List.length a.2.2.2.2.1)),a)) 0).bind fun e4=>
 Sum.elim (fun e5=>K false)
 (fun e6=>(loopAll (f27_l16.m (a.2.2.2.2.2.1,(nt (List.length a.2.2.2.2.2.1)),a)) 0).bind fun e7=>
 Sum.elim (fun e8=>K false)
 (fun e9=>(loopAll (f27_l22.m (a.2.2.2.2.2.2.1,(nt (List.length a.2.2.2.2.2.2.1)))) 0).bind fun e10=>
 Sum.elim (fun e11=>K false)
 (fun e12=>K true) e10) e7) e4) e1))))))))
def f27_m:=fun a=>f27_c a some
def f27_sp:Spec:=f27_s.sp f27_m
noncomputable def f27_e:Env:=⟨fun k=>[].contains k,callsL [(58,f58_sp),(59,f59_sp),(60,f60_sp)],fun X k s K=>if k=4 then f27_l4.q X s K else if k=10 then f27_l10.q X s K else if k=16 then f27_l16.q X s K else if k=22 then f27_l22.q X s K else none⟩
noncomputable def f27_l4_c:Code:=subAt [1,1,0,1,0,0] (bodyOf Tryz.f27)
theorem f27_l4_ok (hc:SimCall C f27_e.call):LoopSim f27_e.loop (vc par C true [1,4,6,8,10] 174) (.loop f27_l4_c):=
 lO hc f27_l4 (by intros;simp only [f27_l4,LD.m,nn])
noncomputable def f27_l10_c:Code:=subAt [1,1,1,0,1,0,0] (bodyOf Tryz.f27)
theorem f27_l10_ok (hc:SimCall C f27_e.call):LoopSim f27_e.loop (vc par C true [1,4,6,8,10] 174) (.loop f27_l10_c):=
 lO hc f27_l10 (by intros;simp only [f27_l10,LD.m,nn])
noncomputable def f27_l16_c:Code:=subAt [1,1,1,1,0,1,0,0] (bodyOf Tryz.f27)
theorem f27_l16_ok (hc:SimCall C f27_e.call):LoopSim f27_e.loop (vc par C true [1,4,6,8,10] 174) (.loop f27_l16_c):=
 lO hc f27_l16 (by intros;simp only [f27_l16,LD.m,nn])
noncomputable def f27_l22_c:Code:=subAt [1,1,1,1,1,0,1,0,0] (bodyOf Tryz.f27)
theorem f27_l22_ok (hc:SimCall C f27_e.call):LoopSim f27_e.loop (vc par C true [1,4,6,8,10] 174) (.loop f27_l22_c):=
 lO hc f27_l22 (by intros;simp only [f27_l22,LD.m,nn])
theorem f27_ok:OK (3) 27 (f27_s.sp f27_m):=
 fO (d:=2) (env:=f27_e) (callsL_sim (cc f58_ok (cc f59_ok (cc f60_ok cn)))) (fn:=Tryz.f27) (mc:=@f27_c) (by intros;simp only [f27_m,f27_c,nn]) (locs:=[1,4,6,8,10]) (hl:=fun hc=>(lp_of (by kernel_rfl) (lp_cons (f27_l4_ok hc) (lp_cons (f27_l10_ok hc) (lp_cons (f27_l16_ok hc) (lp_cons (f27_l22_ok hc) lp_nil))))))
def f28_s:FS (TGraph) ((List Int)×Bool) where
 sk:=⟨(.cons (.agg kGraph) .nil),[],0⟩
 a:=fun u=>(q8 u.1.1)
 n:=fun a=>(((w8 a),()),())
 o:=fun Z a r K=>K (.tup [.lit (.int .i64) r.1,.bool r.2]) ⟨[],0⟩
def f28_l3:LD ((List TInstr)×Int×TGraph) (Int×Int) (Int) where
 sk:=⟨[(1,.loc 0 0),(4,.v (.int .i64)),(13,.v (.lit cInstr)),(14,.v (.int .i64)),(15,.v (.int .i64))],[kGraph],[],0,0⟩
 p:=fun u=>(u.1.2.1,u.1.2.2.1,(q8 u.2.1.1))
 t:=fun u=>(u.1.1,u.1.t3.1)
 n:=fun p t=>((t.1,(p.1,(p.2.1,(t.2,())))),(((w8 p.2.2),()),()))
 st:=fun Y p t ki ke=>cond (decide (t.2<p.2.1))
  (ask (V.inRange t.2 (List.length p.1)) (cond (decide ((1:Int)<=(gx p.1 (Int.toNat t.2) dInstr).1))
  (cond (decide ((gx p.1 (Int.toNat t.2) dInstr).1<=(12:Int)))
  (ki ((wi64 (t.1+(1:Int))),(wi64 (t.2+(1:Int)))))
  (ki (t.1,(wi64 (t.2+(1:Int))))))
  (ki (t.1,(wi64 (t.2+(1:Int)))))))
  (ke (t.1))
 o:=fun Z p e K=>K (.exit 0) ⟨[(1,.loc 0 0),(4,.v (.int .i64 e))],[[.lit cInstr p.2.2.1,.int .i64 p.t3.1,.int .i64 p.t4.1,.int .i64 p.t5.1,.lit cInput p.t6.1,.lit cScalar p.t7.1,.lit cInput p.t8.1,.lit cAlarm p.t9]],⟨[],0⟩,0⟩
 pol:=⟨[1,4,13,14,15],[],[],[]⟩
 pe:=[(.exit 0,⟨[1,4],[],[],[]⟩)]
def f28_l12:LD (Int×Int×TGraph) (Int×(List Int)) ((List Int)) where
 sk:=⟨[(1,.loc 0 0),(4,.v (.int .i64)),(7,.v (.all 0)),(41,.v (.int .i64)),(42,.v (.int .i64))],[kGraph],[.cells (.int .i64)],0,0⟩
 p:=fun u=>(u.1.1,u.1.2.2.1,(q8 u.2.1.1))
 t:=fun u=>(u.1.t3.1,u.2.2.1)
 n:=fun p t=>((p.1,((),(p.2.1,(t.1,())))),(((w8 p.2.2),()),(t.2,())))
 st:=fun Y p t ki ke=>cond (decide (t.1<p.2.1))
  (ask (V.inRange t.1 (List.length t.2)) (ki ((wi64 (t.1+(1:Int))),(List.set t.2 (Int.toNat t.1) (-1)))))
  (ke (t.2))
 o:=fun Z p e K=>K (.exit 2) ⟨[(1,.loc 0 0),(4,.v (.int .i64 p.1)),(7,.v (.all 0))],[[.lit cInstr p.2.2.1,.int .i64 p.t3.1,.int .i64 p.t4.1,.int .i64 p.t5.1,.lit cInput p.t6.1,.lit cScalar p.t7.1,.lit cInput p.t8.1,.lit cAlarm p.t9]],⟨[.cells (.int .i64) e],0⟩,0⟩
 pol:=⟨[1,4,7,41,42],[],[],[]⟩
 pe:=[(.exit 2,⟨[1,4,7],[],[],[]⟩)]
def f28_l17:LD (Int×(List TInstr)×Int×TGraph) (Int×(List Int)) ((Unit) ⊕ ((List Int))) where
 sk:=⟨[(1,.loc 0 0),(4,.v (.int .i64)),(7,.v (.all 0)),(50,.v (.lit cInstr)),(51,.v (.int .i64)),(52,.v (.int .i64))],[kGraph],[.cells (.int .i64)],0,0⟩
 p:=fun u=>(u.1.1,u.1.2.2.1,u.1.t3.1,(q8 u.2.1.1))
 t:=fun u=>(u.1.t4.1,u.2.2.1)
 n:=fun p t=>((p.1,((),(p.2.1,(p.2.2.1,(t.1,()))))),(((w8 p.t3),()),(t.2,())))
 st:=fun Y p t ki ke=>cond (decide (t.1<p.2.2.1))
  (ask (V.inRange t.1 (List.length p.2.1)) (cond (decide ((gx p.2.1 (Int.toNat t.1) dInstr).1<(1:Int)))
  (ki ((wi64 (t.1+(1:Int))),t.2))
  (cond (decide ((12:Int)<(gx p.2.1 (Int.toNat t.1) dInstr).1))
  (ki ((wi64 (t.1+(1:Int))),t.2))
  (cond (decide ((wi64 ((gx p.2.1 (Int.toNat t.1) dInstr).2.1-(nt (List.length p.2.2.2.2.2.2.2.2.1))))<(0:Int)))
  (ke (.inl ()))
  (cond (decide (p.1<=(wi64 ((gx p.2.1 (Int.toNat t.1) dInstr).2.1-(nt (List.length p.2.2.2.2.2.2.2.2.1))))))
  (ke (.inl ()))
  (ask (V.inRange (wi64 ((gx p.2.1 (Int.toNat t.1) dInstr).2.1-(nt (List.length p.2.2.2.2.2.2.2.2.1)))) (List.length t.2)) (cond (decide ((0:Int)<=(gx t.2 (Int.toNat (wi64 ((gx p.2.1 (Int.toNat t.1) dInstr).2.1-(nt (List.length p.2.2.2.2.2.2.2.2.1))))) (0:Int))))
  (ke (.inl ()))
  (ask (V.inRange (wi64 ((gx p.2.1 (Int.toNat t.1) dInstr).2.1-(nt (List.length p.2.2.2.2.2.2.2.2.1)))) (List.length t.2)) (ki ((wi64 (t.1+(1:Int))),(List.set t.2 (Int.toNat (wi64 ((gx p.2.1 (Int.toNat t.1) dInstr).2.1-(nt (List.length p.2.2.2.2.2.2.2.2.1))))) t.1)))))))))))
  (ke (.inr (t.2)))
 o:=fun Z p e K=>Sum.elim (fun e=>K .ret ⟨[(2,.v (.nils)),(3,.v (.bool false))],[],⟨[],0⟩,0⟩) (fun e=>K (.exit 4) ⟨[(7,.v (.all 0))],[],⟨[.cells (.int .i64) e],0⟩,0⟩) e
 pol:=⟨[1,4,7,50,51,52],[],[],[]⟩
 pe:=[(.ret,⟨[2,3],[],[],[]⟩),(.exit 4,⟨[7],[],[],[]⟩)]
def f28_c {X:Type} (a:TGraph) (K:(List Int)×Bool->Option X):Option X:=
 (loopAll (f28_l3.m (a.1,(nt (List.length a.1)),a)) (0,0)).bind fun e1=>
 cond (!(decide (a.2.2.1=(wi64 ((nt (List.length a.2.2.2.2.2.1))+e1)))))
 (K ([],false))
 (ask (decide (0<=e1)&&decide (e1<=e1)&&decide (8 * e1<=70368744177664)&&decide (e1<9223372036854775808)) ((loopAll (f28_l12.m (e1,(nt (List.length (List.replicate (Int.toNat e1) (0:Int)))),a)) (0,(List.replicate (Int.toNat e1) (0:Int)))).bind fun e2=>
 (loopAll (f28_l17.m (e1,a.1,(nt (List.length a.1)),a)) (0,e2)).bind fun e3=>
 Sum.elim (fun e4=>K ([],false))
 (fun e5=>K (e5,true)) e3))
def f28_m:=fun a=>f28_c a some
def f28_sp:Spec:=f28_s.sp f28_m
noncomputable def f28_e:Env:=⟨fun k=>[].contains k,callsL [],fun X k s K=>if k=3 then f28_l3.q X s K else if k=12 then f28_l12.q X s K else if k=17 then f28_l17.q X s K else none⟩
noncomputable def f28_l3_c:Code:=subAt [1,1,0,1,0,0] (bodyOf Tryz.f28)
theorem f28_l3_ok (hc:SimCall C f28_e.call):LoopSim f28_e.loop (vc par C true [1,6,10] 91) (.loop f28_l3_c):=
 lO hc f28_l3 (by intros;simp only [f28_l3,LD.m,nn])
noncomputable def f28_l12_c:Code:=subAt [1,1,1,1,1,0,1,0,0] (bodyOf Tryz.f28)
theorem f28_l12_ok (hc:SimCall C f28_e.call):LoopSim f28_e.loop (vc par C true [1,6,10] 91) (.loop f28_l12_c):=
 lO hc f28_l12 (by intros;simp only [f28_l12,LD.m,nn])
noncomputable def f28_l17_c:Code:=subAt [1,1,1,1,1,1,0,1,0,0] (bodyOf Tryz.f28)
theorem f28_l17_ok (hc:SimCall C f28_e.call):LoopSim f28_e.loop (vc par C true [1,6,10] 91) (.loop f28_l17_c):=
 lO hc f28_l17 (by intros;simp only [f28_l17,LD.m,nn])
theorem f28_ok:OK (1) 28 (f28_s.sp f28_m):=
 fO (d:=0) (env:=f28_e) (callsL_sim cn) (fn:=Tryz.f28) (mc:=@f28_c) (by intros;simp only [f28_m,f28_c,nn]) (locs:=[1,6,10]) (sh:=(.tup [(.lit (.int .i64)),.any])) (fz:=true) (hl:=fun hc=>(lp_of (by kernel_rfl) (lp_cons (f28_l3_ok hc) (lp_cons (f28_l12_ok hc) (lp_cons (f28_l17_ok hc) lp_nil)))))
def f29_s:FS (TInstr) (Bool) where
 sk:=⟨(.cons (.agg kInstr) .nil),[],0⟩
 a:=fun u=>(q8 u.1.1)
 n:=fun a=>(((w8 a),()),())
 o:=fun Z a r K=>K (.bool r) ⟨[],0⟩
def f29_r1:PD (TInstr) (Bool) where
 sk:=⟨[(1,.loc 0 0)],[kInstr],[],0,0⟩
 p:=fun u=>(q8 u.2.1.1)
 n:=fun p=>((),(((w8 p),()),()))
 st:=fun Y p ke=>cond (decide (p.1=(1:Int)))
  (ke (true))
  (cond (decide (p.1=(16:Int)))
  (ke (true))
  (ke ((decide ((17:Int)<=p.1)))))
 o:=fun Z p e K=>K .normal ⟨[(1,.loc 0 0),(3,.v (.bool e))],[[.int .i64 p.1,.int .i64 p.2.1,.int .i64 p.2.2.1,.int .i64 p.t3.1,.int .i64 p.t4.1,.int .i64 p.t5.1,.int .i64 p.t6.1,.int .i64 p.t7]],⟨[],0⟩,0⟩
 pol:=⟨[1],[],[],[]⟩
 pe:=[(.normal,⟨[1,3],[],[],[]⟩)]
def f29_r2:PD (Bool×TInstr) (Bool) where
 sk:=⟨[(1,.loc 0 0),(3,.v .bool)],[kInstr],[],0,0⟩
 p:=fun u=>(u.1.1,(q8 u.2.1.1))
 n:=fun p=>((p.1,()),(((w8 p.2),()),()))
 st:=fun Y p ke=>cond p.1
  (ke (true))
  (cond (decide (p.2.1=(2:Int)))
  (ke (true))
  (cond (decide (p.2.1=(3:Int)))
  (ke (true))
  (cond (decide (p.2.1=(12:Int)))
  (ke (true))
  (ke ((decide (p.2.1=(13:Int))))))))
 o:=fun Z p e K=>K .normal ⟨[(1,.loc 0 0),(3,.v (.bool p.1)),(4,.v (.bool e))],[[.int .i64 p.2.1,.int .i64 p.2.2.1,.int .i64 p.t3.1,.int .i64 p.t4.1,.int .i64 p.t5.1,.int .i64 p.t6.1,.int .i64 p.t7.1,.int .i64 p.t8]],⟨[],0⟩,0⟩
 pol:=⟨[1,3],[],[],[]⟩
 pe:=[(.normal,⟨[1,3,4],[],[],[]⟩)]
def f29_r3:PD (Bool×Bool×TInstr) (Bool) where
 sk:=⟨[(1,.loc 0 0),(3,.v .bool),(4,.v .bool)],[kInstr],[],0,0⟩
 p:=fun u=>(u.1.1,u.1.2.1,(q8 u.2.1.1))
 n:=fun p=>((p.1,(p.2.1,())),(((w8 p.2.2),()),()))
 st:=fun Y p ke=>cond (decide (p.2.2.1=(15:Int)))
  (ke (true))
  (cond (decide (p.2.2.1=(16:Int)))
  (ke (true))
  (ke ((decide ((17:Int)<=p.2.2.1)))))
 o:=fun Z p e K=>K .normal ⟨[(1,.loc 0 0),(3,.v (.bool p.1)),(4,.v (.bool p.2.1)),(5,.v (.bool e))],[[.int .i64 p.2.2.1,.int .i64 p.t3.1,.int .i64 p.t4.1,.int .i64 p.t5.1,.int .i64 p.t6.1,.int .i64 p.t7.1,.int .i64 p.t8.1,.int .i64 p.t9]],⟨[],0⟩,0⟩
 pol:=⟨[1,3,4],[],[],[]⟩
 pe:=[(.normal,⟨[1,3,4,5],[],[],[]⟩)]
def f29_r4:PD (Bool×Bool×Bool×TInstr) (Bool) where
 sk:=⟨[(1,.loc 0 0),(3,.v .bool),(4,.v .bool),(5,.v .bool)],[kInstr],[],0,0⟩
 p:=fun u=>(u.1.1,u.1.2.1,u.1.2.2.1,(q8 u.2.1.1))
 n:=fun p=>((p.1,(p.2.1,(p.2.2.1,()))),(((w8 p.t3),()),()))
 st:=fun Y p ke=>cond (!(decide (p.2.2.2.1=(1:Int))))
  (ke ((!(decide (p.2.2.2.1=(15:Int))))))
  (ke (false))
 o:=fun Z p e K=>K .normal ⟨[(1,.loc 0 0),(3,.v (.bool p.1)),(4,.v (.bool p.2.1)),(5,.v (.bool p.2.2.1)),(6,.v (.bool e))],[[.int .i64 p.t3.1,.int .i64 p.t4.1,.int .i64 p.t5.1,.int .i64 p.t6.1,.int .i64 p.t7.1,.int .i64 p.t8.1,.int .i64 p.t9.1,.int .i64 p.t10]],⟨[],0⟩,0⟩
 pol:=⟨[1,3,4,5],[],[],[]⟩
 pe:=[(.normal,⟨[1,3,4,5,6],[],[],[]⟩)]
def f29_r5:PD (Bool×Bool×Bool×Bool×TInstr) (Bool) where
 sk:=⟨[(1,.loc 0 0),(3,.v .bool),(4,.v .bool),(5,.v .bool),(6,.v .bool)],[kInstr],[],0,0⟩
 p:=fun u=>(u.1.1,u.1.2.1,u.1.2.2.1,u.1.t3.1,(q8 u.2.1.1))
 n:=fun p=>((p.1,(p.2.1,(p.2.2.1,(p.t3.1,())))),(((w8 p.t4),()),()))
 st:=fun Y p ke=>cond (!p.1)
  (cond (!p.2.1)
  (cond (!p.2.2.1)
  (cond (!p.2.2.2.1)
  (ke (true))
  (ke ((decide (p.2.2.2.2.2.2.2.2.1=(0:Int))))))
  (cond (decide (p.2.2.2.2.2.1=(0:Int)))
  (cond (!p.2.2.2.1)
  (ke (true))
  (ke ((decide (p.2.2.2.2.2.2.2.2.1=(0:Int))))))
  (ke (false))))
  (cond (decide (p.2.2.2.2.2.2.2.1=(0:Int)))
  (cond (!p.2.2.1)
  (cond (!p.2.2.2.1)
  (ke (true))
  (ke ((decide (p.2.2.2.2.2.2.2.2.1=(0:Int))))))
  (cond (decide (p.2.2.2.2.2.1=(0:Int)))
  (cond (!p.2.2.2.1)
  (ke (true))
  (ke ((decide (p.2.2.2.2.2.2.2.2.1=(0:Int))))))
  (ke (false))))
  (ke (false))))
  (cond (decide (p.2.2.2.2.2.2.1=(0:Int)))
  (cond (!p.2.1)
  (cond (!p.2.2.1)
  (cond (!p.2.2.2.1)
  (ke (true))
  (ke ((decide (p.2.2.2.2.2.2.2.2.1=(0:Int))))))
  (cond (decide (p.2.2.2.2.2.1=(0:Int)))
  (cond (!p.2.2.2.1)
  (ke (true))
  (ke ((decide (p.2.2.2.2.2.2.2.2.1=(0:Int))))))
  (ke (false))))
  (cond (decide (p.2.2.2.2.2.2.2.1=(0:Int)))
  (cond (!p.2.2.1)
  (cond (!p.2.2.2.1)
  (ke (true))
  (ke ((decide (p.2.2.2.2.2.2.2.2.1=(0:Int))))))
  (cond (decide (p.2.2.2.2.2.1=(0:Int)))
  (cond (!p.2.2.2.1)
  (ke (true))
  (ke ((decide (p.2.2.2.2.2.2.2.2.1=(0:Int))))))
  (ke (false))))
  (ke (false))))
  (ke (false)))
 o:=fun Z p e K=>K .normal ⟨[(2,.v (.bool e))],[],⟨[],0⟩,0⟩
 pol:=⟨[1,3,4,5,6],[],[],[]⟩
 pe:=[(.normal,⟨[2],[],[],[]⟩)]
def f29_c {X:Type} (a:TInstr) (K:Bool->Option X):Option X:=
 (f29_r1.m a).bind fun e1=>
 (f29_r2.m (e1,a)).bind fun e2=>
 (f29_r3.m (e1,e2,a)).bind fun e3=>
 (f29_r4.m (e1,e2,e3,a)).bind fun e4=>
 (f29_r5.m (e1,e2,e3,e4,a)).bind fun e5=>
 K e5
def f29_m:=fun a=>f29_c a some
def f29_sp:Spec:=f29_s.sp f29_m
noncomputable def f29_e:Env:=⟨fun k=>[2000001,2000002,2000003,2000004,2000005].contains k,callsL [],fun X k s K=>if k=2000001 then f29_r1.q X s K else if k=2000002 then f29_r2.q X s K else if k=2000003 then f29_r3.q X s K else if k=2000004 then f29_r4.q X s K else if k=2000005 then f29_r5.q X s K else none⟩
noncomputable def f29_r1_c:Code:=subAt [1,0] (bodyOf Tryz.f29)
theorem f29_r1_ok (hc:SimCall C f29_e.call):LoopSim f29_e.loop (vc par C true [1] 96) f29_r1_c:=
 pO (env0:=⟨offJ f29_e.join 2000001,f29_e.call,f29_e.loop⟩) hc rfl f29_r1 (by intros;simp only [f29_r1,PD.m,nn])
noncomputable def f29_r2_c:Code:=subAt [1,1,0] (bodyOf Tryz.f29)
theorem f29_r2_ok (hc:SimCall C f29_e.call):LoopSim f29_e.loop (vc par C true [1] 96) f29_r2_c:=
 pO (env0:=⟨offJ f29_e.join 2000002,f29_e.call,f29_e.loop⟩) hc rfl f29_r2 (by intros;simp only [f29_r2,PD.m,nn])
noncomputable def f29_r3_c:Code:=subAt [1,1,1,0] (bodyOf Tryz.f29)
theorem f29_r3_ok (hc:SimCall C f29_e.call):LoopSim f29_e.loop (vc par C true [1] 96) f29_r3_c:=
 pO (env0:=⟨offJ f29_e.join 2000003,f29_e.call,f29_e.loop⟩) hc rfl f29_r3 (by intros;simp only [f29_r3,PD.m,nn])
noncomputable def f29_r4_c:Code:=subAt [1,1,1,1,0] (bodyOf Tryz.f29)
theorem f29_r4_ok (hc:SimCall C f29_e.call):LoopSim f29_e.loop (vc par C true [1] 96) f29_r4_c:=
 pO (env0:=⟨offJ f29_e.join 2000004,f29_e.call,f29_e.loop⟩) hc rfl f29_r4 (by intros;simp only [f29_r4,PD.m,nn])
noncomputable def f29_r5_c:Code:=subAt [1,1,1,1,1,0] (bodyOf Tryz.f29)
theorem f29_r5_ok (hc:SimCall C f29_e.call):LoopSim f29_e.loop (vc par C true [1] 96) f29_r5_c:=
 pO (env0:=⟨offJ f29_e.join 2000005,f29_e.call,f29_e.loop⟩) hc rfl f29_r5 (by intros;simp only [f29_r5,PD.m,nn])
theorem f29_ok:OK (1) 29 (f29_s.sp f29_m):=
 fO (d:=0) (env:=f29_e) (callsL_sim cn) (fn:=Tryz.f29) (mc:=@f29_c) (by intros;simp only [f29_m,f29_c,nn]) (locs:=[1]) (hl:=fun hc=>(lp_of (by kernel_rfl) (lp_cons (f29_r1_ok hc) (lp_cons (f29_r2_ok hc) (lp_cons (f29_r3_ok hc) (lp_cons (f29_r4_ok hc) (lp_cons (f29_r5_ok hc) lp_nil)))))))
def f61_s:FS (Int×Int) (Bool) where
 sk:=⟨kAlarm,[],0⟩
 a:=fun u=>(u.1.1,u.1.2.1)
 n:=fun a=>((a.1,(a.2,())),())
 o:=fun Z a r K=>K (.bool r) ⟨[],0⟩
def f61_c {X:Type} (a:Int×Int) (K:Bool->Option X):Option X:=
 cond (decide ((0:Int)<=a.1))
 (K (decide (a.1<a.2)))
 (K false)
def f61_m:=fun a=>f61_c a some
def f61_sp:Spec:=f61_s.sp f61_m
noncomputable def f61_e:Env:=⟨fun k=>[].contains k,callsL [],fun X k s K=>none⟩
theorem f61_ok:OK (1) 61 (f61_s.sp f61_m):=
 fO (d:=0) (env:=f61_e) (callsL_sim cn) (fn:=Tryz.f61) (mc:=@f61_c) (by intros;simp only [f61_m,f61_c,nn])
def f30_s:FS (TInstr×Int) (Bool) where
 sk:=⟨(.cons (.agg kInstr) (.cons (.int .i64) .nil)),[],0⟩
 a:=fun u=>((q8 u.1.1),u.1.2.1)
 n:=fun a=>(((w8 a.1),(a.2,())),())
 o:=fun Z a r K=>K (.bool r) ⟨[],0⟩
def f30_c {X:Type} (a:TInstr×Int) (K:Bool->Option X):Option X:=
 cond (decide (a.1.1=(15:Int)))
 ((f61_m (a.1.2.2.2.2.2.2.1,a.2)).bind fun r1=>
 cond r1
 ((f61_m (a.1.2.2.2.2.2.2.2,a.2)).bind fun r2=>
 K r2)
 (K false))
 (cond (decide (a.1.1=(21:Int)))
 (cond (decide (a.1.2.2.2.2.2.2.1=(-1:Int)))
 (K (decide (a.1.2.2.2.2.2.2.2=(-1:Int))))
 (K false))
 ((f61_m (a.1.2.2.2.2.2.2.1,a.2)).bind fun r3=>
 cond r3
 (K (decide (a.1.2.2.2.2.2.2.2=(-1:Int))))
 (K false)))
def f30_m:=fun a=>f30_c a some
def f30_sp:Spec:=f30_s.sp f30_m
noncomputable def f30_e:Env:=⟨fun k=>[].contains k,callsL [(61,f61_sp)],fun X k s K=>none⟩
theorem f30_ok:OK (2) 30 (f30_s.sp f30_m):=
 fO (d:=1) (env:=f30_e) (callsL_sim (cc f61_ok cn)) (fn:=Tryz.f30) (mc:=@f30_c) (by intros;simp only [f30_m,f30_c,nn]) (locs:=[2])
def f31_s:FS (TInstr) ((List Int)) where
 sk:=⟨(.cons (.agg kInstr) .nil),[],0⟩
 a:=fun u=>(q8 u.1.1)
 n:=fun a=>(((w8 a),()),())
 o:=fun Z a r K=>K (.lit (.int .i64) r) ⟨[],0⟩
def f31_c {X:Type} (a:TInstr) (K:(List Int)->Option X):Option X:=
 cond (decide (a.1=(2:Int)))
 (K ([a.2.2.1]:List Int))
 (cond (decide (a.1=(3:Int)))
 (K ([a.2.2.1]:List Int))
 (cond (decide (a.1=(13:Int)))
 (K ([a.2.2.1]:List Int))
 (cond (decide (a.1=(4:Int)))
 (K ([a.2.2.1,a.2.2.2.1]:List Int))
 (cond (decide (a.1=(5:Int)))
 (K ([a.2.2.1,a.2.2.2.1]:List Int))
 (cond (decide (a.1=(6:Int)))
 (K ([a.2.2.1,a.2.2.2.1]:List Int))
 (cond (decide (a.1=(7:Int)))
 (K ([a.2.2.1,a.2.2.2.1]:List Int))
 (cond (decide (a.1=(8:Int)))
 (K ([a.2.2.1,a.2.2.2.1]:List Int))
 (cond (decide (a.1=(9:Int)))
 (K ([a.2.2.1,a.2.2.2.1]:List Int))
 (cond (decide (a.1=(10:Int)))
 (K ([a.2.2.1,a.2.2.2.1]:List Int))
 (cond (decide (a.1=(15:Int)))
 (K ([a.2.2.1,a.2.2.2.1]:List Int))
 (cond (decide (a.1=(11:Int)))
 (K ([a.2.2.2.1]:List Int))
 (cond (decide (a.1=(14:Int)))
 (K ([a.2.1,a.2.2.2.1]:List Int))
 (K [])))))))))))))
def f31_m:=fun a=>f31_c a some
def f31_sp:Spec:=f31_s.sp f31_m
noncomputable def f31_e:Env:=⟨fun k=>[].contains k,callsL [],fun X k s K=>none⟩
theorem f31_ok:OK (1) 31 (f31_s.sp f31_m):=
 fO (d:=0) (env:=f31_e) (callsL_sim cn) (fn:=Tryz.f31) (mc:=@f31_c) (by intros;simp only [f31_m,f31_c,nn]) (locs:=[1]) (sh:=(.lit (.int .i64))) (fz:=true)
def f62_s:FS (Y0) (Int×Bool) where
 sk:=⟨(.cons (.agg kGraph) (.cons (.lit (.int .i64)) (.cons (.agg kInstr) .nil))),[],0⟩
 a:=fun u=>((q8 u.1.1),u.1.2.1,(q8 u.1.2.2.1))
 n:=fun a=>(((w8 a.1),(a.2.1,((w8 a.2.2),()))),())
 o:=fun Z a r K=>K (.tup [.int .i64 r.1,.bool r.2]) ⟨[],0⟩
def f62_c {X:Type} (a:Y0) (K:(Int×Bool)->Option X):Option X:=
 cond (decide (a.2.2.1=(2:Int)))
 (K (2,true))
 (cond (decide (a.2.2.1=(3:Int)))
 (K (2,true))
 (cond (decide (a.2.2.1=(4:Int)))
 (K (2,true))
 (cond (decide (a.2.2.1=(5:Int)))
 (K (2,true))
 (cond (decide (a.2.2.1=(6:Int)))
 (K (2,true))
 (cond (decide (a.2.2.1=(7:Int)))
 (K (12,true))
 (cond (decide (a.2.2.1=(8:Int)))
 (K (4,true))
 (cond (decide (a.2.2.1=(11:Int)))
 (K (16,true))
 (cond (decide (a.2.2.1=(14:Int)))
 (ask (V.inRange a.2.2.2.2.1 (List.length a.1.2.2.2.2.2.2.1)) (cond (decide ((gx a.1.2.2.2.2.2.2.1 (Int.toNat a.2.2.2.2.1) dInput).2.1=(3:Int)))
 (K (16,true))
 (K (18,true))))
 (cond (decide (a.2.2.1=(21:Int)))
 (K (32,true))
 (cond (decide (a.2.2.1=(13:Int)))
 (ask (V.inRange a.2.2.2.1 (List.length a.1.2.2.2.2.2.1)) (cond (decide ((nt (List.length a.1.2.2.2.2.2.1))<=a.2.2.2.2.1))
 (ask (V.inRange (wi64 (a.2.2.2.2.1-(nt (List.length a.1.2.2.2.2.2.1)))) (List.length a.2.1)) (ask (V.inRange (gx a.2.1 (Int.toNat (wi64 (a.2.2.2.2.1-(nt (List.length a.1.2.2.2.2.2.1))))) (0:Int)) (List.length a.1.1)) (cond (decide ((gx a.1.1 (Int.toNat (gx a.2.1 (Int.toNat (wi64 (a.2.2.2.2.1-(nt (List.length a.1.2.2.2.2.2.1))))) (0:Int))) dInstr).1=(12:Int)))
 (ask (V.inRange (gx a.1.1 (Int.toNat (gx a.2.1 (Int.toNat (wi64 (a.2.2.2.2.1-(nt (List.length a.1.2.2.2.2.2.1))))) (0:Int))) dInstr).2.2.1 (List.length a.1.2.2.2.2.1)) ((f59_m (gx a.1.2.2.2.2.2.1 (Int.toNat a.2.2.2.1) dScalar).2.1).bind fun r1=>
 cond (decide (r1<=(gx a.1.2.2.2.2.1 (Int.toNat (gx a.1.1 (Int.toNat (gx a.2.1 (Int.toNat (wi64 (a.2.2.2.2.1-(nt (List.length a.1.2.2.2.2.2.1))))) (0:Int))) dInstr).2.2.1) dInput).2.2.1))
 (ask (V.inRange (gx a.1.1 (Int.toNat (gx a.2.1 (Int.toNat (wi64 (a.2.2.2.2.1-(nt (List.length a.1.2.2.2.2.2.1))))) (0:Int))) dInstr).2.2.1 (List.length a.1.2.2.2.2.1)) ((f60_m (gx a.1.2.2.2.2.2.1 (Int.toNat a.2.2.2.1) dScalar).2.1).bind fun r2=>
 cond (decide ((gx a.1.2.2.2.2.1 (Int.toNat (gx a.1.1 (Int.toNat (gx a.2.1 (Int.toNat (wi64 (a.2.2.2.2.1-(nt (List.length a.1.2.2.2.2.2.1))))) (0:Int))) dInstr).2.2.1) dInput).2.2.2<=r2))
 (K (2,false))
 (K (2,(!(decide ((gx a.1.2.2.2.2.2.1 (Int.toNat a.2.2.2.1) dScalar).2.1=(3:Int))))))))
 (K (2,(!(decide ((gx a.1.2.2.2.2.2.1 (Int.toNat a.2.2.2.1) dScalar).2.1=(3:Int))))))))
 (K (2,(!(decide ((gx a.1.2.2.2.2.2.1 (Int.toNat a.2.2.2.1) dScalar).2.1=(3:Int)))))))))
 (K (2,(!(decide ((gx a.1.2.2.2.2.2.1 (Int.toNat a.2.2.2.1) dScalar).2.1=(3:Int))))))))
 (K (0,false))))))))))))
def f62_m:=fun a=>f62_c a some
def f62_sp:Spec:=f62_s.sp f62_m
noncomputable def f62_e:Env:=⟨fun k=>[].contains k,callsL [(59,f59_sp),(60,f60_sp)],fun X k s K=>none⟩
theorem f62_ok:OK (3) 62 (f62_s.sp f62_m):=
 fO (d:=2) (env:=f62_e) (callsL_sim (cc f59_ok (cc f60_ok cn))) (fn:=Tryz.f62) (mc:=@f62_c) (by intros;simp only [f62_m,f62_c,nn]) (locs:=[3,5,10])
def f32_s:FS (Y0) (Bool) where
 sk:=⟨(.cons (.agg kGraph) (.cons (.lit (.int .i64)) (.cons (.agg kInstr) .nil))),[],0⟩
 a:=fun u=>((q8 u.1.1),u.1.2.1,(q8 u.1.2.2.1))
 n:=fun a=>(((w8 a.1),(a.2.1,((w8 a.2.2),()))),())
 o:=fun Z a r K=>K (.bool r) ⟨[],0⟩
def f32_c {X:Type} (a:Y0) (K:Bool->Option X):Option X:=
 (f62_m (a.1,a.2.1,a.2.2)).bind fun r1=>
 cond (decide (a.2.2.2.2.2.2.2.1=(0:Int)))
 (K (!r1.2))
 (cond (!(decide (r1.1=(0:Int))))
 (cond (decide ((0:Int)<a.2.2.2.2.2.2.2.1))
 (cond (decide (a.2.2.2.2.2.2.2.1<(nt (List.length a.1.2.2.2.2.2.2.2))))
 (ask (V.inRange a.2.2.2.2.2.2.2.1 (List.length a.1.2.2.2.2.2.2.2)) (K (decide ((bits_and .i64 (gx a.1.2.2.2.2.2.2.2 (Int.toNat a.2.2.2.2.2.2.2.1) dAlarm).2 r1.1)=r1.1))))
 (K false))
 (K false))
 (K false))
def f32_m:=fun a=>f32_c a some
def f32_sp:Spec:=f32_s.sp f32_m
noncomputable def f32_e:Env:=⟨fun k=>[].contains k,callsL [(62,f62_sp)],fun X k s K=>none⟩
theorem f32_ok:OK (4) 32 (f32_s.sp f32_m):=
 fO (d:=3) (env:=f32_e) (callsL_sim (cc f62_ok cn)) (fn:=Tryz.f32) (mc:=@f32_c) (by intros;simp only [f32_m,f32_c,nn]) (locs:=[3,5])
def f33_s:FS (TGraph) (Bool) where
 sk:=⟨(.cons (.agg kGraph) .nil),[],0⟩
 a:=fun u=>(q8 u.1.1)
 n:=fun a=>(((w8 a),()),())
 o:=fun Z a r K=>K (.bool r) ⟨[],0⟩
def f33_l12:LD (Bool×Int×TAlarm×TGraph×(List Bool)) (Bool×Int) (Bool) where
 sk:=⟨[(1,.loc 0 0),(3,.v (.all 0)),(4,.v .bool),(5,.v (.int .i64)),(6,.v .bool),(49,.v (.agg kAlarm)),(50,.v (.int .i64))],[kGraph],[.cells .bool],0,0⟩
 p:=fun u=>(u.1.2.1,u.1.2.2.1,(u.1.t4.1.1,u.1.t4.1.2.1),(q8 u.2.1.1),u.2.2.1)
 t:=fun u=>(u.1.t3.1,u.1.t5.1)
 n:=fun p t=>(((),(p.1,(p.2.1,(t.1,((p.2.2.1.1,(p.2.2.1.2,())),(t.2,())))))),(((w8 p.t3.1),()),(p.t4,())))
 st:=fun Y p t ki ke=>cond (decide (t.2<(2:Int)))
  (cond (decide (t.2=(0:Int)))
  (cond t.1
  (cond (decide (p.2.2.1.1<(0:Int)))
  (ki (true,(wi64 (t.2+(1:Int)))))
  (ask (V.inRange p.2.2.1.1 (List.length p.2.2.2.2)) (ki ((gx p.2.2.2.2 (Int.toNat p.2.2.1.1) false),(wi64 (t.2+(1:Int)))))))
  (ki (false,(wi64 (t.2+(1:Int))))))
  (cond (decide (t.2=(1:Int)))
  (cond t.1
  (cond (decide (p.2.2.1.2<(0:Int)))
  (ki (true,(wi64 (t.2+(1:Int)))))
  (ask (V.inRange p.2.2.1.2 (List.length p.2.2.2.2)) (ki ((gx p.2.2.2.2 (Int.toNat p.2.2.1.2) false),(wi64 (t.2+(1:Int)))))))
  (ki (false,(wi64 (t.2+(1:Int))))))
  (none)))
  (ke (t.1))
 o:=fun Z p e K=>K (.exit 4) ⟨[(1,.loc 0 0),(3,.v (.all 0)),(4,.v (.bool p.1)),(5,.v (.int .i64 p.2.1)),(6,.v (.bool e))],[[.lit cInstr p.t3.1.1,.int .i64 p.t3.1.2.1,.int .i64 p.t3.1.2.2.1,.int .i64 p.t3.1.t3.1,.lit cInput p.t3.1.t4.1,.lit cScalar p.t3.1.t5.1,.lit cInput p.t3.1.t6.1,.lit cAlarm p.t3.1.t7]],⟨[.cells .bool p.t4],0⟩,0⟩
 pol:=⟨[1,3,4,5,6,49,50],[],[],[]⟩
 pe:=[(.exit 4,⟨[1,3,4,5,6],[],[],[]⟩)]
def f33_l6:LD (TGraph) (Bool×Int×(List Bool)) (Bool×(List Bool)) where
 sk:=⟨[(1,.loc 0 0),(3,.v (.all 0)),(4,.v .bool),(5,.v (.int .i64))],[kGraph],[.cells .bool],0,0⟩
 p:=fun u=>(q8 u.2.1.1)
 t:=fun u=>(u.1.2.1,u.1.2.2.1,u.2.2.1)
 n:=fun p t=>(((),(t.1,(t.2.1,()))),(((w8 p),()),(t.2.2,())))
 st:=fun Y p t ki ke=>cond (decide ((0:Int)<=t.2.1))
  (ask (V.inRange t.2.1 (List.length t.2.2)) (cond (gx t.2.2 (Int.toNat t.2.1) false)
  (ki (t.1,(wi64 (t.2.1-(1:Int))),t.2.2))
  (ask (V.inRange t.2.1 (List.length p.1)) (cond (!(decide ((gx p.1 (Int.toNat t.2.1) dInstr).1=(17:Int))))
  (ask (V.inRange t.2.1 (List.length p.1)) (cond (!(decide ((gx p.1 (Int.toNat t.2.1) dInstr).1=(20:Int))))
  (ask (V.inRange t.2.1 (List.length p.1)) ((loopAll (f33_l12.m (t.1,t.2.1,(gx p.1 (Int.toNat t.2.1) dInstr).2.2.2.2.2.2,p,t.2.2)) (true,0)).bind fun e1=>
  cond e1
  (ask (V.inRange t.2.1 (List.length t.2.2)) (ki (true,(wi64 (t.2.1-(1:Int))),(List.set t.2.2 (Int.toNat t.2.1) true))))
  (ki (t.1,(wi64 (t.2.1-(1:Int))),t.2.2))))
  (ask (V.inRange t.2.1 (List.length t.2.2)) (ki (true,(wi64 (t.2.1-(1:Int))),(List.set t.2.2 (Int.toNat t.2.1) true))))))
  (ask (V.inRange t.2.1 (List.length t.2.2)) (ki (true,(wi64 (t.2.1-(1:Int))),(List.set t.2.2 (Int.toNat t.2.1) true))))))))
  (ke ((t.1,t.2.2)))
 o:=fun Z p e K=>K (.exit 2) ⟨[(1,.loc 0 0),(3,.v (.all 0)),(4,.v (.bool e.1))],[[.lit cInstr p.1,.int .i64 p.2.1,.int .i64 p.2.2.1,.int .i64 p.t3.1,.lit cInput p.t4.1,.lit cScalar p.t5.1,.lit cInput p.t6.1,.lit cAlarm p.t7]],⟨[.cells .bool e.2],0⟩,0⟩
 pol:=⟨[1,3,4,5],[],[],[]⟩
 pe:=[(.exit 2,⟨[1,3,4],[],[],[]⟩)]
def f33_l3:LD (TGraph) (Bool×(List Bool)) ((List Bool)) where
 sk:=⟨[(1,.loc 0 0),(3,.v (.all 0)),(4,.v .bool)],[kGraph],[.cells .bool],0,0⟩
 p:=fun u=>(q8 u.2.1.1)
 t:=fun u=>(u.1.2.1,u.2.2.1)
 n:=fun p t=>(((),(t.1,())),(((w8 p),()),(t.2,())))
 st:=fun Y p t ki ke=>cond t.1
  ((loopAll (f33_l6.m p) (false,(wi64 ((nt (List.length p.1))-(1:Int))),t.2)).bind fun e1=>
  ki (e1.1,e1.2))
  (ke (t.2))
 o:=fun Z p e K=>K (.exit 0) ⟨[(3,.v (.all 0))],[],⟨[.cells .bool e],0⟩,0⟩
 pol:=⟨[1,3,4],[],[],[]⟩
 pe:=[(.exit 0,⟨[3],[],[],[]⟩)]
def f33_l20:LD (Int×(List Bool)) (Int) ((Unit) ⊕ (Unit)) where
 sk:=⟨[(69,.v (.all 0)),(70,.v (.int .i64)),(71,.v (.int .i64))],[],[.cells .bool],0,0⟩
 p:=fun u=>(u.1.2.1,u.2.2.1)
 t:=fun u=>u.1.2.2.1
 n:=fun p t=>(((),(p.1,(t,()))),((),(p.2,())))
 st:=fun Y p t ki ke=>cond (decide (t<p.1))
  (ask (V.inRange t (List.length p.2)) (cond (!(gx p.2 (Int.toNat t) false))
  (ke (.inl ()))
  (ki ((wi64 (t+(1:Int)))))))
  (ke (.inr (())))
 o:=fun Z p e K=>Sum.elim (fun e=>K .ret ⟨[(2,.v (.bool false))],[],⟨[],0⟩,0⟩) (fun e=>K (.exit 6) ⟨[],[],⟨[],0⟩,0⟩) e
 pol:=⟨[69,70,71],[],[],[]⟩
 pe:=[(.ret,⟨[2],[],[],[]⟩),(.exit 6,⟨[],[],[],[]⟩)]
def f33_c {X:Type} (a:TGraph) (K:Bool->Option X):Option X:=
 ask (decide (0<=(nt (List.length a.1)))&&decide ((nt (List.length a.1))<=(nt (List.length a.1)))&&decide (1 * (nt (List.length a.1))<=70368744177664)&&decide ((nt (List.length a.1))<9223372036854775808)) ((loopAll (f33_l3.m a) (true,(List.replicate (Int.toNat (nt (List.length a.1))) (false:Bool)))).bind fun e1=>
 (loopAll (f33_l20.m ((nt (List.length e1)),e1)) 0).bind fun e2=>
 Sum.elim (fun e3=>K false)
 (fun e4=>K true) e2)
def f33_m:=fun a=>f33_c a some
def f33_sp:Spec:=f33_s.sp f33_m
noncomputable def f33_e:Env:=⟨fun k=>[].contains k,callsL [],fun X k s K=>if k=12 then f33_l12.q X s K else if k=6 then f33_l6.q X s K else if k=3 then f33_l3.q X s K else if k=20 then f33_l20.q X s K else none⟩
noncomputable def f33_l12_c:Code:=subAt [1,1,0,1,0,0,1,0,1,1,0,0,1,0,0,1,1,0,1,0,1,0,0] (bodyOf Tryz.f33)
theorem f33_l12_ok (hc:SimCall C f33_e.call):LoopSim f33_e.loop (vc par C true [1] 78) (.loop f33_l12_c):=
 lO hc f33_l12 (by intros;simp only [f33_l12,LD.m,nn])
noncomputable def f33_l6_c:Code:=subAt [1,1,0,1,0,0,1,0,1,1,0,0] (bodyOf Tryz.f33)
theorem f33_l6_ok (hc:SimCall C f33_e.call):LoopSim f33_e.loop (vc par C true [1] 78) (.loop f33_l6_c):=
 lO hc f33_l6 (by intros;simp only [f33_l6,LD.m,nn]) (hl:=(lp_of (by kernel_rfl) (lp_cons (f33_l12_ok hc) lp_nil)))
noncomputable def f33_l3_c:Code:=subAt [1,1,0,1,0,0] (bodyOf Tryz.f33)
theorem f33_l3_ok (hc:SimCall C f33_e.call):LoopSim f33_e.loop (vc par C true [1] 78) (.loop f33_l3_c):=
 lO hc f33_l3 (by intros;simp only [f33_l3,LD.m,nn]) (hl:=(lp_of (by kernel_rfl) (lp_cons (f33_l6_ok hc) lp_nil)))
noncomputable def f33_l20_c:Code:=subAt [1,1,1,0,1,0,0] (bodyOf Tryz.f33)
theorem f33_l20_ok (hc:SimCall C f33_e.call):LoopSim f33_e.loop (vc par C true [1] 78) (.loop f33_l20_c):=
 lO hc f33_l20 (by intros;simp only [f33_l20,LD.m,nn])
theorem f33_ok:OK (1) 33 (f33_s.sp f33_m):=
 fO (d:=0) (env:=f33_e) (callsL_sim cn) (fn:=Tryz.f33) (mc:=@f33_c) (by intros;simp only [f33_m,f33_c,nn]) (locs:=[1]) (hl:=fun hc=>(lp_of (by kernel_rfl) (lp_cons (f33_l3_ok hc) (lp_cons (f33_l20_ok hc) lp_nil))))
def f8_s:FS (TGraph) (Bool) where
 sk:=⟨(.cons (.agg kGraph) .nil),[],0⟩
 a:=fun u=>(q8 u.1.1)
 n:=fun a=>(((w8 a),()),())
 o:=fun Z a r K=>K (.bool r) ⟨[],0⟩
def f8_r1:PD (TGraph) (Bool) where
 sk:=⟨[(1,.loc 0 0)],[kGraph],[],0,0⟩
 p:=fun u=>(q8 u.2.1.1)
 n:=fun p=>((),(((w8 p),()),()))
 st:=fun Y p ke=>cond (decide ((nt (List.length p.1))<(1:Int)))
  (ke (true))
  (cond (decide ((4096:Int)<(nt (List.length p.1))))
  (ke (true))
  (cond (decide (p.2.1<(0:Int)))
  (ke (true))
  (cond (decide ((nt (List.length p.1))<=p.2.1))
  (ke (true))
  (ask (V.inRange p.2.1 (List.length p.1)) (cond (!(decide ((gx p.1 (Int.toNat p.2.1) dInstr).1=(17:Int))))
  (ke (true))
  ((f27_m p).bind fun r1=>
  ke ((!r1))))))))
 o:=fun Z p e K=>K .normal ⟨[(1,.loc 0 0),(47,.v (.bool e))],[[.lit cInstr p.1,.int .i64 p.2.1,.int .i64 p.2.2.1,.int .i64 p.t3.1,.lit cInput p.t4.1,.lit cScalar p.t5.1,.lit cInput p.t6.1,.lit cAlarm p.t7]],⟨[],0⟩,0⟩
 pol:=⟨[1],[],[],[]⟩
 pe:=[(.normal,⟨[1,47],[],[],[]⟩)]
def f8_r9:PD ((List Int)×Int×(List TInstr)×Int×Int×TGraph×TInstr) (Bool) where
 sk:=⟨[(1,.loc 0 0),(3,.v (.lit (.int .i64))),(5,.v (.int .i64)),(6,.loc 1 0),(56,.v (.lit cInstr)),(57,.v (.int .i64)),(58,.v (.int .i64))],[kGraph,kInstr],[],0,0⟩
 p:=fun u=>(u.1.1,u.1.2.1,u.1.2.2.1,u.1.t3.1,u.1.t4.1,(q8 u.2.1.1),(q8 u.2.1.2.1))
 n:=fun p=>((p.1,(p.2.1,(p.2.2.1,(p.t3.1,(p.t4.1,()))))),(((w8 p.t5.1),((w8 p.t6),())),()))
 st:=fun Y p ke=>cond (decide (p.2.2.2.2.2.2.1<(1:Int)))
  (ke (true))
  (cond (decide ((22:Int)<=p.2.2.2.2.2.2.1))
  (ke (true))
  (cond (decide (p.2.2.2.2.2.2.1=(17:Int)))
  (cond (!(decide (p.2.1=p.2.2.2.2.2.1.2.1)))
  (ke (true))
  ((f29_m p.2.2.2.2.2.2).bind fun r1=>
  cond (!r1)
  (ke (true))
  ((f30_m (p.2.2.2.2.2.2,(nt (List.length p.2.2.2.2.2.1.1)))).bind fun r2=>
  ke ((!r2)))))
  ((f29_m p.2.2.2.2.2.2).bind fun r3=>
  cond (!r3)
  (ke (true))
  ((f30_m (p.2.2.2.2.2.2,(nt (List.length p.2.2.2.2.2.1.1)))).bind fun r4=>
  ke ((!r4))))))
 o:=fun Z p e K=>K .normal ⟨[(1,.loc 0 0),(3,.v (.lit (.int .i64) p.1)),(5,.v (.int .i64 p.2.1)),(6,.loc 1 0),(56,.v (.lit cInstr p.2.2.1)),(57,.v (.int .i64 p.t3.1)),(58,.v (.int .i64 p.t4.1)),(94,.v (.bool e))],[[.lit cInstr p.t5.1.1,.int .i64 p.t5.1.2.1,.int .i64 p.t5.1.2.2.1,.int .i64 p.t5.1.t3.1,.lit cInput p.t5.1.t4.1,.lit cScalar p.t5.1.t5.1,.lit cInput p.t5.1.t6.1,.lit cAlarm p.t5.1.t7],[.int .i64 p.t6.1,.int .i64 p.t7.1,.int .i64 p.t8.1,.int .i64 p.t9.1,.int .i64 p.t10.1,.int .i64 p.t11.1,.int .i64 p.t12.1,.int .i64 p.t13]],⟨[],0⟩,0⟩
 pol:=⟨[1,3,5,6,56,57,58],[],[],[]⟩
 pe:=[(.normal,⟨[1,3,5,6,56,57,58,94],[],[],[]⟩)]
def f8_r14:PD ((List Int)×Int×Int×(List TInstr)×Int×Int×(List Int)×Int×Int×(TGraph×TInstr)) (Bool) where
 sk:=⟨[(1,.loc 0 0),(3,.v (.lit (.int .i64))),(5,.v (.int .i64)),(6,.loc 1 0),(8,.v (.int .i64)),(56,.v (.lit cInstr)),(57,.v (.int .i64)),(58,.v (.int .i64)),(96,.v (.lit (.int .i64))),(97,.v (.int .i64)),(98,.v (.int .i64))],[kGraph,kInstr],[],0,0⟩
 p:=fun u=>(u.1.1,u.1.2.1,u.1.2.2.1,u.1.t3.1,u.1.t4.1,u.1.t5.1,u.1.t6.1,u.1.t7.1,u.1.t8.1,((q8 u.2.1.1),(q8 u.2.1.2.1)))
 n:=fun p=>((p.1,(p.2.1,(p.2.2.1,(p.t3.1,(p.t4.1,(p.t5.1,(p.t6.1,(p.t7.1,(p.t8.1,()))))))))),(((w8 p.t9.1),((w8 p.t10),())),()))
 st:=fun Y p ke=>cond (decide (p.2.2.1<(0:Int)))
  (ke (true))
  (cond (decide (p.2.2.2.2.2.2.2.2.2.1.2.2.1<=p.2.2.1))
  (ke (true))
  (cond (decide ((nt (List.length p.2.2.2.2.2.2.2.2.2.1.2.2.2.2.2.1))<=p.2.2.1))
  (ask (V.inRange (wi64 (p.2.2.1-(nt (List.length p.2.2.2.2.2.2.2.2.2.1.2.2.2.2.2.1)))) (List.length p.1)) (ke ((decide (p.2.1<=(gx p.1 (Int.toNat (wi64 (p.2.2.1-(nt (List.length p.2.2.2.2.2.2.2.2.2.1.2.2.2.2.2.1))))) (0:Int)))))))
  (ke (false))))
 o:=fun Z p e K=>K .normal ⟨[(1,.loc 0 0),(3,.v (.lit (.int .i64) p.1)),(5,.v (.int .i64 p.2.1)),(6,.loc 1 0),(56,.v (.lit cInstr p.t3.1)),(57,.v (.int .i64 p.t4.1)),(58,.v (.int .i64 p.t5.1)),(96,.v (.lit (.int .i64) p.t6.1)),(97,.v (.int .i64 p.t7.1)),(98,.v (.int .i64 p.t8.1)),(128,.v (.bool e))],[[.lit cInstr p.t9.1.1,.int .i64 p.t9.1.2.1,.int .i64 p.t9.1.2.2.1,.int .i64 p.t9.1.t3.1,.lit cInput p.t9.1.t4.1,.lit cScalar p.t9.1.t5.1,.lit cInput p.t9.1.t6.1,.lit cAlarm p.t9.1.t7],[.int .i64 p.t10.1,.int .i64 p.t11.1,.int .i64 p.t12.1,.int .i64 p.t13.1,.int .i64 p.t14.1,.int .i64 p.t15.1,.int .i64 p.t16.1,.int .i64 p.t17]],⟨[],0⟩,0⟩
 pol:=⟨[1,3,5,6,8,56,57,58,96,97,98],[],[],[]⟩
 pe:=[(.normal,⟨[1,3,5,6,56,57,58,96,97,98,128],[],[],[]⟩)]
def f8_l12:LD ((List Int)×Int×(List TInstr)×Int×Int×(List Int)×Int×TGraph×TInstr) (Int) ((Unit) ⊕ (Unit)) where
 sk:=⟨[(1,.loc 0 0),(3,.v (.lit (.int .i64))),(5,.v (.int .i64)),(6,.loc 1 0),(56,.v (.lit cInstr)),(57,.v (.int .i64)),(58,.v (.int .i64)),(96,.v (.lit (.int .i64))),(97,.v (.int .i64)),(98,.v (.int .i64))],[kGraph,kInstr],[],0,0⟩
 p:=fun u=>(u.1.1,u.1.2.1,u.1.2.2.1,u.1.t3.1,u.1.t4.1,u.1.t5.1,u.1.t6.1,(q8 u.2.1.1),(q8 u.2.1.2.1))
 t:=fun u=>u.1.t7.1
 n:=fun p t=>((p.1,(p.2.1,(p.2.2.1,(p.t3.1,(p.t4.1,(p.t5.1,(p.t6.1,(t,())))))))),(((w8 p.t7.1),((w8 p.t8),())),()))
 st:=fun Y p t ki ke=>cond (decide (t<p.2.2.2.2.2.2.1))
  (ask (V.inRange t (List.length p.2.2.2.2.2.1)) ((f8_r14.m (p.1,p.2.1,(gx p.2.2.2.2.2.1 (Int.toNat t) (0:Int)),p.2.2.1,p.2.2.2.1,p.2.2.2.2.1,p.2.2.2.2.2.1,p.2.2.2.2.2.2.1,t,p.2.2.2.2.2.2.2)).bind fun e1=>
  cond e1
  (ke (.inl ()))
  (ki ((wi64 (t+(1:Int)))))))
  (ke (.inr (())))
 o:=fun Z p e K=>Sum.elim (fun e=>K .ret ⟨[(2,.v (.bool false))],[],⟨[],0⟩,0⟩) (fun e=>K (.exit 2) ⟨[(1,.loc 0 0),(3,.v (.lit (.int .i64) p.1)),(6,.loc 1 0),(56,.v (.lit cInstr p.2.2.1)),(57,.v (.int .i64 p.t3.1)),(58,.v (.int .i64 p.t4.1))],[[.lit cInstr p.t7.1.1,.int .i64 p.t7.1.2.1,.int .i64 p.t7.1.2.2.1,.int .i64 p.t7.1.t3.1,.lit cInput p.t7.1.t4.1,.lit cScalar p.t7.1.t5.1,.lit cInput p.t7.1.t6.1,.lit cAlarm p.t7.1.t7],[.int .i64 p.t8.1,.int .i64 p.t9.1,.int .i64 p.t10.1,.int .i64 p.t11.1,.int .i64 p.t12.1,.int .i64 p.t13.1,.int .i64 p.t14.1,.int .i64 p.t15]],⟨[],0⟩,0⟩) e
 pol:=⟨[1,3,5,6,56,57,58,96,97,98],[],[],[]⟩
 pe:=[(.ret,⟨[2],[],[],[]⟩),(.exit 2,⟨[1,3,6,56,57,58],[],[],[]⟩)]
def f8_r17:PD (Y1) (Bool) where
 sk:=⟨[(1,.loc 0 0),(3,.v (.lit (.int .i64))),(6,.loc 1 0),(56,.v (.lit cInstr)),(57,.v (.int .i64)),(58,.v (.int .i64))],[kGraph,kInstr],[],0,0⟩
 p:=fun u=>(u.1.1,u.1.2.1,u.1.2.2.1,u.1.t3.1,(q8 u.2.1.1),(q8 u.2.1.2.1))
 n:=fun p=>((p.1,(p.2.1,(p.2.2.1,(p.t3.1,())))),(((w8 p.t4.1),((w8 p.t5),())),()))
 st:=fun Y p ke=>cond (decide (p.2.2.2.2.2.1=(11:Int)))
  (ke (true))
  (ke ((decide (p.2.2.2.2.2.1=(14:Int)))))
 o:=fun Z p e K=>K .normal ⟨[(1,.loc 0 0),(3,.v (.lit (.int .i64) p.1)),(6,.loc 1 0),(9,.v (.bool e)),(56,.v (.lit cInstr p.2.1)),(57,.v (.int .i64 p.2.2.1)),(58,.v (.int .i64 p.t3.1))],[[.lit cInstr p.t4.1.1,.int .i64 p.t4.1.2.1,.int .i64 p.t4.1.2.2.1,.int .i64 p.t4.1.t3.1,.lit cInput p.t4.1.t4.1,.lit cScalar p.t4.1.t5.1,.lit cInput p.t4.1.t6.1,.lit cAlarm p.t4.1.t7],[.int .i64 p.t5.1,.int .i64 p.t6.1,.int .i64 p.t7.1,.int .i64 p.t8.1,.int .i64 p.t9.1,.int .i64 p.t10.1,.int .i64 p.t11.1,.int .i64 p.t12]],⟨[],0⟩,0⟩
 pol:=⟨[1,3,6,56,57,58],[],[],[]⟩
 pe:=[(.normal,⟨[1,3,6,9,56,57,58],[],[],[]⟩)]
def f8_r18:PD ((List Int)×Bool×(List TInstr)×Int×Int×TGraph×TInstr) (Bool) where
 sk:=⟨[(1,.loc 0 0),(3,.v (.lit (.int .i64))),(6,.loc 1 0),(9,.v .bool),(56,.v (.lit cInstr)),(57,.v (.int .i64)),(58,.v (.int .i64))],[kGraph,kInstr],[],0,0⟩
 p:=fun u=>(u.1.1,u.1.2.1,u.1.2.2.1,u.1.t3.1,u.1.t4.1,(q8 u.2.1.1),(q8 u.2.1.2.1))
 n:=fun p=>((p.1,(p.2.1,(p.2.2.1,(p.t3.1,(p.t4.1,()))))),(((w8 p.t5.1),((w8 p.t6),())),()))
 st:=fun Y p ke=>cond p.2.1
  (cond (decide (p.2.2.2.2.2.2.2.2.1<(0:Int)))
  (ke (true))
  (cond (decide ((nt (List.length p.2.2.2.2.2.1.2.2.2.2.2.2.1))<=p.2.2.2.2.2.2.2.2.1))
  (ke (true))
  (cond (decide (p.2.2.2.2.2.2.1=(12:Int)))
  (cond (decide (p.2.2.2.2.2.2.2.2.1<(0:Int)))
  (ke (true))
  (cond (decide ((nt (List.length p.2.2.2.2.2.1.2.2.2.2.1))<=p.2.2.2.2.2.2.2.2.1))
  (ke (true))
  (cond (decide (p.2.2.2.2.2.2.1=(13:Int)))
  (cond (decide (p.2.2.2.2.2.2.2.1<(0:Int)))
  (ke (true))
  (ke ((decide ((nt (List.length p.2.2.2.2.2.1.2.2.2.2.2.1))<=p.2.2.2.2.2.2.2.1)))))
  (ke (false)))))
  (cond (decide (p.2.2.2.2.2.2.1=(13:Int)))
  (cond (decide (p.2.2.2.2.2.2.2.1<(0:Int)))
  (ke (true))
  (ke ((decide ((nt (List.length p.2.2.2.2.2.1.2.2.2.2.2.1))<=p.2.2.2.2.2.2.2.1)))))
  (ke (false))))))
  (cond (decide (p.2.2.2.2.2.2.1=(12:Int)))
  (cond (decide (p.2.2.2.2.2.2.2.2.1<(0:Int)))
  (ke (true))
  (cond (decide ((nt (List.length p.2.2.2.2.2.1.2.2.2.2.1))<=p.2.2.2.2.2.2.2.2.1))
  (ke (true))
  (cond (decide (p.2.2.2.2.2.2.1=(13:Int)))
  (cond (decide (p.2.2.2.2.2.2.2.1<(0:Int)))
  (ke (true))
  (ke ((decide ((nt (List.length p.2.2.2.2.2.1.2.2.2.2.2.1))<=p.2.2.2.2.2.2.2.1)))))
  (ke (false)))))
  (cond (decide (p.2.2.2.2.2.2.1=(13:Int)))
  (cond (decide (p.2.2.2.2.2.2.2.1<(0:Int)))
  (ke (true))
  (ke ((decide ((nt (List.length p.2.2.2.2.2.1.2.2.2.2.2.1))<=p.2.2.2.2.2.2.2.1)))))
  (ke (false))))
 o:=fun Z p e K=>K .normal ⟨[(1,.loc 0 0),(3,.v (.lit (.int .i64) p.1)),(6,.loc 1 0),(56,.v (.lit cInstr p.2.2.1)),(57,.v (.int .i64 p.t3.1)),(58,.v (.int .i64 p.t4.1)),(187,.v (.bool e))],[[.lit cInstr p.t5.1.1,.int .i64 p.t5.1.2.1,.int .i64 p.t5.1.2.2.1,.int .i64 p.t5.1.t3.1,.lit cInput p.t5.1.t4.1,.lit cScalar p.t5.1.t5.1,.lit cInput p.t5.1.t6.1,.lit cAlarm p.t5.1.t7],[.int .i64 p.t6.1,.int .i64 p.t7.1,.int .i64 p.t8.1,.int .i64 p.t9.1,.int .i64 p.t10.1,.int .i64 p.t11.1,.int .i64 p.t12.1,.int .i64 p.t13]],⟨[],0⟩,0⟩
 pol:=⟨[1,3,6,9,56,57,58],[],[],[]⟩
 pe:=[(.normal,⟨[1,3,6,56,57,58,187],[],[],[]⟩)]
def f8_r20:PD (Y1) (Bool) where
 sk:=⟨[(1,.loc 0 0),(3,.v (.lit (.int .i64))),(6,.loc 1 0),(56,.v (.lit cInstr)),(57,.v (.int .i64)),(58,.v (.int .i64))],[kGraph,kInstr],[],0,0⟩
 p:=fun u=>(u.1.1,u.1.2.1,u.1.2.2.1,u.1.t3.1,(q8 u.2.1.1),(q8 u.2.1.2.1))
 n:=fun p=>((p.1,(p.2.1,(p.2.2.1,(p.t3.1,())))),(((w8 p.t4.1),((w8 p.t5),())),()))
 st:=fun Y p ke=>cond (decide (p.2.2.2.2.2.1=(1:Int)))
  (cond (decide (p.2.2.2.2.2.2.2.2.2.1<(-2147483648:Int)))
  (ke (true))
  (cond (decide ((2147483647:Int)<p.2.2.2.2.2.2.2.2.2.1))
  (ke (true))
  (cond (decide (p.2.2.2.2.2.1=(15:Int)))
  (cond (decide (p.2.2.2.2.2.2.2.2.2.1<(14:Int)))
  (ke (true))
  (cond (decide ((19:Int)<p.2.2.2.2.2.2.2.2.2.1))
  (ke (true))
  ((f32_m (p.2.2.2.2.1,p.1,p.2.2.2.2.2)).bind fun r1=>
  ke ((!r1)))))
  ((f32_m (p.2.2.2.2.1,p.1,p.2.2.2.2.2)).bind fun r2=>
  ke ((!r2))))))
  (cond (decide (p.2.2.2.2.2.1=(15:Int)))
  (cond (decide (p.2.2.2.2.2.2.2.2.2.1<(14:Int)))
  (ke (true))
  (cond (decide ((19:Int)<p.2.2.2.2.2.2.2.2.2.1))
  (ke (true))
  ((f32_m (p.2.2.2.2.1,p.1,p.2.2.2.2.2)).bind fun r3=>
  ke ((!r3)))))
  ((f32_m (p.2.2.2.2.1,p.1,p.2.2.2.2.2)).bind fun r4=>
  ke ((!r4))))
 o:=fun Z p e K=>K .normal ⟨[(1,.loc 0 0),(3,.v (.lit (.int .i64) p.1)),(56,.v (.lit cInstr p.2.1)),(57,.v (.int .i64 p.2.2.1)),(58,.v (.int .i64 p.t3.1)),(222,.v (.bool e))],[[.lit cInstr p.t4.1.1,.int .i64 p.t4.1.2.1,.int .i64 p.t4.1.2.2.1,.int .i64 p.t4.1.t3.1,.lit cInput p.t4.1.t4.1,.lit cScalar p.t4.1.t5.1,.lit cInput p.t4.1.t6.1,.lit cAlarm p.t4.1.t7]],⟨[],0⟩,0⟩
 pol:=⟨[1,3,6,56,57,58],[],[],[]⟩
 pe:=[(.normal,⟨[1,3,56,57,58,222],[],[],[]⟩)]
def f8_l7:LD ((List Int)×(List TInstr)×Int×TGraph) (Int) ((Unit) ⊕ (Unit)) where
 sk:=⟨[(1,.loc 0 0),(3,.v (.lit (.int .i64))),(56,.v (.lit cInstr)),(57,.v (.int .i64)),(58,.v (.int .i64))],[kGraph],[],0,0⟩
 p:=fun u=>(u.1.1,u.1.2.1,u.1.2.2.1,(q8 u.2.1.1))
 t:=fun u=>u.1.t3.1
 n:=fun p t=>((p.1,(p.2.1,(p.2.2.1,(t,())))),(((w8 p.t3),()),()))
 st:=fun Y p t ki ke=>cond (decide (t<p.2.2.1))
  (ask (V.inRange t (List.length p.2.1)) ((f8_r9.m (p.1,t,p.2.1,p.2.2.1,t,p.2.2.2,(gx p.2.1 (Int.toNat t) dInstr))).bind fun e1=>
  cond e1
  (ke (.inl ()))
  ((f31_m (gx p.2.1 (Int.toNat t) dInstr)).bind fun r2=>
  (loopAll (f8_l12.m (p.1,t,p.2.1,p.2.2.1,t,r2,(nt (List.length r2)),p.2.2.2,(gx p.2.1 (Int.toNat t) dInstr))) 0).bind fun e3=>
  Sum.elim (fun e4=>ke (.inl ()))
  (fun e5=>(f8_r17.m (p.1,p.2.1,p.2.2.1,t,p.2.2.2,(gx p.2.1 (Int.toNat t) dInstr))).bind fun e6=>
  (f8_r18.m (p.1,e6,p.2.1,p.2.2.1,t,p.2.2.2,(gx p.2.1 (Int.toNat t) dInstr))).bind fun e7=>
  cond e7
  (ke (.inl ()))
  ((f8_r20.m (p.1,p.2.1,p.2.2.1,t,p.2.2.2,(gx p.2.1 (Int.toNat t) dInstr))).bind fun e8=>
  cond e8
  (ke (.inl ()))
  (ki ((wi64 (t+(1:Int))))))) e3)))
  (ke (.inr (())))
 o:=fun Z p e K=>Sum.elim (fun e=>K .ret ⟨[(2,.v (.bool false))],[],⟨[],0⟩,0⟩) (fun e=>K (.exit 0) ⟨[(1,.loc 0 0)],[[.lit cInstr p.t3.1,.int .i64 p.t4.1,.int .i64 p.t5.1,.int .i64 p.t6.1,.lit cInput p.t7.1,.lit cScalar p.t8.1,.lit cInput p.t9.1,.lit cAlarm p.t10]],⟨[],0⟩,0⟩) e
 pol:=⟨[1,3,56,57,58],[],[],[]⟩
 pe:=[(.ret,⟨[2],[],[],[]⟩),(.exit 0,⟨[1],[],[],[]⟩)]
def f8_c {X:Type} (a:TGraph) (K:Bool->Option X):Option X:=
 (f8_r1.m a).bind fun e1=>
 cond e1
 (K false)
 ((f28_m a).bind fun r2=>
 cond (!r2.2)
 (K false)
 ((loopAll (f8_l7.m (r2.1,a.1,(nt (List.length a.1)),a)) 0).bind fun e3=>
 Sum.elim (fun e4=>K false)
 (fun e5=>(f33_m a).bind fun r6=>
 K r6) e3))
def f8_m:=fun a=>f8_c a some
def f8_sp:Spec:=f8_s.sp f8_m
noncomputable def f8_e:Env:=⟨fun k=>[2000001,2000009,2000014,2000017,2000018,2000020].contains k,callsL [(27,f27_sp),(28,f28_sp),(29,f29_sp),(30,f30_sp),(31,f31_sp),(32,f32_sp),(33,f33_sp)],fun X k s K=>if k=2000001 then f8_r1.q X s K else if k=2000009 then f8_r9.q X s K else if k=2000014 then f8_r14.q X s K else if k=12 then f8_l12.q X s K else if k=2000017 then f8_r17.q X s K else if k=2000018 then f8_r18.q X s K else if k=2000020 then f8_r20.q X s K else if k=7 then f8_l7.q X s K else none⟩
noncomputable def f8_r1_c:Code:=subAt [1,0,0] (bodyOf Tryz.f8)
theorem f8_r1_ok (hc:SimCall C f8_e.call):LoopSim f8_e.loop (vc par C true [1,6] 226) f8_r1_c:=
 pO (env0:=⟨offJ f8_e.join 2000001,f8_e.call,f8_e.loop⟩) hc rfl f8_r1 (by intros;simp only [f8_r1,PD.m,nn])
noncomputable def f8_r9_c:Code:=subAt [1,1,1,1,0,1,0,0,1,1,0,0,1,0,0] (bodyOf Tryz.f8)
theorem f8_r9_ok (hc:SimCall C f8_e.call):LoopSim f8_e.loop (vc par C true [1,6] 226) f8_r9_c:=
 pO (env0:=⟨offJ f8_e.join 2000009,f8_e.call,f8_e.loop⟩) hc rfl f8_r9 (by intros;simp only [f8_r9,PD.m,nn])
noncomputable def f8_r14_c:Code:=subAt [1,1,1,1,0,1,0,0,1,1,0,0,1,1,0,1,0,0,1,1,0,0,1,0] (bodyOf Tryz.f8)
theorem f8_r14_ok (hc:SimCall C f8_e.call):LoopSim f8_e.loop (vc par C true [1,6] 226) f8_r14_c:=
 pO (env0:=⟨offJ f8_e.join 2000014,f8_e.call,f8_e.loop⟩) hc rfl f8_r14 (by intros;simp only [f8_r14,PD.m,nn])
noncomputable def f8_l12_c:Code:=subAt [1,1,1,1,0,1,0,0,1,1,0,0,1,1,0,1,0,0] (bodyOf Tryz.f8)
theorem f8_l12_ok (hc:SimCall C f8_e.call):LoopSim f8_e.loop (vc par C true [1,6] 226) (.loop f8_l12_c):=
 lO hc f8_l12 (by intros;simp only [f8_l12,LD.m,nn]) (hl:=(lp_of (by kernel_rfl) (lp_cons (f8_r14_ok hc) lp_nil)))
noncomputable def f8_r17_c:Code:=subAt [1,1,1,1,0,1,0,0,1,1,0,0,1,1,1,0] (bodyOf Tryz.f8)
theorem f8_r17_ok (hc:SimCall C f8_e.call):LoopSim f8_e.loop (vc par C true [1,6] 226) f8_r17_c:=
 pO (env0:=⟨offJ f8_e.join 2000017,f8_e.call,f8_e.loop⟩) hc rfl f8_r17 (by intros;simp only [f8_r17,PD.m,nn])
noncomputable def f8_r18_c:Code:=subAt [1,1,1,1,0,1,0,0,1,1,0,0,1,1,1,1,0,0] (bodyOf Tryz.f8)
theorem f8_r18_ok (hc:SimCall C f8_e.call):LoopSim f8_e.loop (vc par C true [1,6] 226) f8_r18_c:=
 pO (env0:=⟨offJ f8_e.join 2000018,f8_e.call,f8_e.loop⟩) hc rfl f8_r18 (by intros;simp only [f8_r18,PD.m,nn])
noncomputable def f8_r20_c:Code:=subAt [1,1,1,1,0,1,0,0,1,1,0,0,1,1,1,1,1,0] (bodyOf Tryz.f8)
theorem f8_r20_ok (hc:SimCall C f8_e.call):LoopSim f8_e.loop (vc par C true [1,6] 226) f8_r20_c:=
 pO (env0:=⟨offJ f8_e.join 2000020,f8_e.call,f8_e.loop⟩) hc rfl f8_r20 (by intros;simp only [f8_r20,PD.m,nn])
noncomputable def f8_l7_c:Code:=subAt [1,1,1,1,0,1,0,0] (bodyOf Tryz.f8)
theorem f8_l7_ok (hc:SimCall C f8_e.call):LoopSim f8_e.loop (vc par C true [1,6] 226) (.loop f8_l7_c):=
 lO hc f8_l7 (by intros;simp only [f8_l7,LD.m,nn]) (hl:=(lp_of (by kernel_rfl) (lp_cons (f8_r9_ok hc) (lp_cons (f8_l12_ok hc) (lp_cons (f8_r17_ok hc) (lp_cons (f8_r18_ok hc) (lp_cons (f8_r20_ok hc) lp_nil)))))))
theorem f8_ok:OK (5) 8 (f8_s.sp f8_m):=
 fO (d:=4) (env:=f8_e) (callsL_sim (cc f27_ok (cc f28_ok (cc f29_ok (cc f30_ok (cc f31_ok (cc f32_ok (cc f33_ok cn)))))))) (fn:=Tryz.f8) (mc:=@f8_c) (by intros;simp only [f8_m,f8_c,nn]) (locs:=[1,6]) (hl:=fun hc=>(lp_of (by kernel_rfl) (lp_cons (f8_r1_ok hc) (lp_cons (f8_l7_ok hc) lp_nil))))
end
end Go.U
end
