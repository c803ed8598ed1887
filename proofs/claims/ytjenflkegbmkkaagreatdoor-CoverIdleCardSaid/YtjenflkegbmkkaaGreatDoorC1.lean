/- The functions of the program as Lean functions, and that the evaluator says so. -/
import Derived.Test.YtjenflkegbmkkaaGreatDoorB3
import Derived.Test.YtjenflkegbmkkaaGreatDoorA6
import Derived.Test.YtjenflkegbmkkaaGreatDoorProg
import Derived.KernelRfl
import Derived.Test.YtjenflkegbmkkaaGreatDoorB5
import Derived.Lib.ItoaNum
set_option linter.unusedVariables false
set_option linter.unusedSimpArgs false
set_option linter.unusedSectionVars false
open Int renaming toNat→ga
open List renaming range→ua,mem_cons_self→zc,mem_cons_of_mem→Gb,append_nil→Qm,getElem?_toArray→Xb,getElem?_cons_zero→ze,getElem?_cons_succ→Ke,length_nil→ek,length→fa,set→Tb,replicate→Ja
open Nat renaming le_trans→Ib,zero_add→de
open Option renaming bind_eq_some_iff→aa,bind_some→da
namespace Go.U
open Go Go.Proofs
def Ga (n:Int):Int:=IntKind.wrap .i64 n
def Gf (n:Int):Int:=IntKind.wrap .u64 n
def nt (n:Nat):Int:=n
def gx {α:Type} (l:List α) (i:Nat) (d:α):α:=l.getD i d
def str (l:List UInt8):ByteArray:=⟨l.toArray⟩
def NY (k:IntKind) (x y:Int):Int:=let a:=BitVec.ofInt k.bits x;let b:=BitVec.ofInt k.bits y;k.wrap (a &&& b).toNat
abbrev ja:CT:=(.pair (.int .i64) (.int .i64))
abbrev Ra:Type:=(Int×Int)
abbrev Zb:Ra:=((0:Int),(0:Int))
abbrev yb:CT:=(.pair .str ja)
abbrev Xd:Type:=(ByteArray×Ra)
abbrev Xc:Xd:=(ByteArray.empty,Zb)
abbrev Na:CT:=(.pair .str (.pair (.int .i64) ja))
abbrev Tc:Type:=(ByteArray×(Int×Ra))
abbrev Bb:Tc:=(ByteArray.empty,((0:Int),Zb))
abbrev Taa:CT:=(.pair (.int .i64) (.pair (.int .i64) ja))
abbrev eM:Type:=(Int×(Int×Ra))
abbrev Naa:eM:=((0:Int),((0:Int),Zb))
abbrev Dj:CT:=(.pair (.slice .bool) (.pair (.slice (.pair .bool .bool)) (.slice ja)))
abbrev Pa:Type:=((List Bool)×((List (Bool×Bool))×(List Ra)))
abbrev Pn:Pa:=([],([],[]))
abbrev zb:CT:=(.pair (.int .i64) (.pair (.int .i64) (.pair (.int .i64) (.pair (.int .i64) Taa))))
abbrev Fb:Type:=(Int×(Int×(Int×(Int×eM))))
abbrev Ta:Fb:=((0:Int),((0:Int),((0:Int),((0:Int),Naa))))
abbrev Uu:Type:=(Int×(Int×(Int×(Int×(Int×((List Int)×((List (List Int))×(List (List Int)))))))))
abbrev Jw:CT:=(.pair (.slice zb) (.pair (.int .i64) (.pair (.int .i64) (.pair (.int .i64) (.pair (.slice Na) (.pair (.slice yb) (.pair (.slice Na) (.slice ja))))))))
abbrev Ba:Type:=((List Fb)×(Int×(Int×(Int×((List Tc)×((List Xd)×((List Tc)×(List Ra))))))))
def vb (f:Func):Code:=match f.body with|some c=>c|none=> .skip
def kid:Code->Nat->Code
 | .seq a _,0=>a
 | .seq _ b,1=>b
 | .cond _ a _,0=>a
 | .cond _ _ b,1=>b
 | .block _ c,0=>c
 | .loop c,0=>c
 | .scope c,0=>c
 | .rangeFunc _ _ a _,0=>a
 | .rangeFunc _ _ _ b,1=>b
 |c,_=>c
def Lb:List Nat->Code->Code
 |[],c=>c
 |i::l,c=>Lb l (kid c i)
def Zz (j:Nat->Bool) (key k:Nat):Bool:=if k=key then false else j k
def Pk {α:Type} (d:α):List (FuncId×α)->FuncId->α
 |[],_=>d
 |(g,x)::l,f=>if f=g then x else Pk d l f
def rfG:Code->Operand
 | .rangeFunc g _ _ _=>g
 |_=> .tmp 0
def bP:Code->Array Tmp
 | .rangeFunc _ ps _ _=>ps
 |_=> #[]
def rfA:Code->Code
 | .rangeFunc _ _ a _=>a
 |c=>c
def rfB:Code->Code
 | .rangeFunc _ _ _ b=>b
 |c=>c
def OZ (n:Nat) (c:Code):RFn:=⟨n,(bP c).toList,rfA c,rfB c⟩
noncomputable def rfT:Nat->RFn:=Pk ⟨0,[],.skip,.skip⟩ [(180000,OZ 10 (Lb [1,1,0,1,0] (vb Tryz.f18))),(230003,OZ 63 (Lb [1,1,0,1,0] (vb Tryz.f23))),(240002,OZ 13 (Lb [1,0,1,0] (vb Tryz.f24))),(440003,OZ 17 (Lb [1,1,0,1,0] (vb Tryz.f44)))]
noncomputable instance:sB:=⟨rfT,74,5⟩
def Uz:List V.AV:=[.int .u64 1,.int .u64 10,.int .u64 100,.int .u64 1000,.int .u64 10000,.int .u64 100000,.int .u64 1000000,.int .u64 10000000,.int .u64 100000000,.int .u64 1000000000,.int .u64 10000000000,.int .u64 100000000000,.int .u64 1000000000000,.int .u64 10000000000000,.int .u64 100000000000000,.int .u64 1000000000000000,.int .u64 10000000000000000,.int .u64 100000000000000000,.int .u64 1000000000000000000,.int .u64 10000000000000000000]
noncomputable def Waf:FuncId->Option (List V.AV->V.AH->Option (V.AV×V.AH)):=Pk none [(41,some (V.KB 74 5)),(67,some (V.Z3 74)),(103,some (V.Q1)),(45,some (V.Mu)),(51,some (V.Ll 52 V.Xg)),(46,some (V.Wm V.Qe))]
noncomputable def cac:List (FuncId×Option Func):=[(3,some Tryz.f3),(4,some Tryz.f4),(5,some Tryz.f5),(6,some Tryz.f6),(7,some Tryz.f7),(8,some Tryz.f8),(9,some Tryz.f9),(10,some Tryz.f10),(11,some Tryz.f11),(12,some Tryz.f12),(13,some Tryz.f13),(14,some Tryz.f14),(15,some Tryz.f15),(16,some Tryz.f16),(17,some Tryz.f17),(18,some Tryz.f18),(19,some Tryz.f19),(20,some Tryz.f20),(21,some Tryz.f21),(22,some Tryz.f22),(23,some Tryz.f23),(24,some Tryz.f24),(25,some Tryz.f25),(26,some Tryz.f26),(27,some Tryz.f27),(28,some Tryz.f28),(29,some Tryz.f29),(30,some Tryz.f30),(31,some Tryz.f31),(32,some Tryz.f32),(33,some Tryz.f33),(34,some Tryz.f34),(35,some Tryz.f35),(36,some Tryz.f36),(37,some Tryz.f37),(39,some Tryz.f39),(40,some Tryz.f40),(42,some Tryz.f42),(43,some Tryz.f43),(44,some Tryz.f44),(50,some Tryz.f50),(55,some Tryz.f55),(56,some Tryz.f56),(57,some Tryz.f57),(58,some Tryz.f58),(59,some Tryz.f59),(60,some Tryz.f60),(61,some Tryz.f61),(62,some Tryz.f62),(63,some Tryz.f63),(64,some Tryz.f64),(65,some Tryz.f65),(66,some Tryz.f66),(68,some Tryz.f68),(69,some Tryz.f69),(72,some Tryz.f72),(75,some Tryz.f75),(76,some Tryz.f76),(77,some Tryz.f77),(78,some Tryz.f78),(79,some Tryz.f79),(80,some Tryz.f80),(81,some Tryz.f81),(82,some Tryz.f82),(83,some Tryz.f83),(84,some Tryz.f84),(85,some Tryz.f85),(86,some Tryz.f86),(87,some Tryz.f87),(88,some Tryz.f88),(89,some Tryz.f89),(90,some Tryz.f90),(91,some Tryz.f91),(92,some Tryz.f92),(93,some Tryz.f93),(94,some Tryz.f94),(95,some Tryz.f95),(96,some Tryz.f96),(97,some Tryz.f97),(98,some Tryz.f98),(99,some Tryz.f99),(100,some Tryz.f100),(101,some Tryz.f101),(115,some Tryz.f115),(124,some Tryz.f124),(125,some Tryz.f125),(126,some Tryz.f126),(127,some Tryz.f127),(128,some Tryz.f128),(129,some Tryz.f129),(130,some Tryz.f130),(131,some Tryz.f131),(38,some Tryz.f38),(41,some Tryz.f41),(67,some Tryz.f67),(103,some Tryz.f103),(48,some Tryz.f48),(47,some Tryz.f47),(49,some Tryz.f49),(45,some Tryz.f45),(51,some Tryz.f51),(46,some Tryz.f46)]
noncomputable def par:V.oh where
 P:=Tryz.prog
 fns:=Pk none cac
 loc:=Pk [] [(3,[3,7,8]),(4,[3]),(5,[4,10,11,12]),(6,[3,10]),(7,[11,2000021]),(8,[1,6]),(9,[1,2000004,2000005,2000006,2000040]),(11,[3,6,7]),(12,[3,6,7,10,11]),(13,[2,3]),(14,[1,2]),(15,[1,2]),(16,[2,3,10,15,16]),(17,[2,3]),(19,[1]),(21,[3,11,16,19]),(22,[3,10,18]),(25,[4,8,10,14]),(26,[14]),(27,[1,4,6,8,10]),(28,[1,6,10]),(29,[1]),(30,[2]),(31,[1]),(32,[3,5]),(33,[1]),(34,[0]),(35,[2,3,4,5]),(36,[3,6,7]),(37,[6,7,12]),(50,[2,3]),(55,[3,9,11]),(56,[0]),(62,[3,5,10]),(63,[3]),(64,[3,6,8]),(65,[13]),(66,[2]),(69,[6,10]),(72,[3]),(76,[5]),(78,[4]),(79,[3]),(80,[3]),(86,[3]),(89,[3]),(90,[3,5]),(91,[3]),(92,[3]),(93,[3,6]),(94,[3]),(95,[3]),(96,[3]),(98,[3]),(99,[3]),(100,[3]),(101,[2]),(115,[3]),(124,[3]),(126,[4]),(128,[3]),(131,[3])]
 keep:=Pk [] [(3,ua 83),(4,ua 25),(5,ua 128),(6,ua 106),(7,ua 123),(8,ua 226),(9,ua 52),(10,ua 9),(11,ua 27),(12,ua 34),(13,ua 81),(14,ua 12),(15,ua 12),(16,ua 127),(17,ua 145),(18,ua 10),(19,ua 39),(20,ua 26),(21,ua 122),(22,ua 143),(23,ua 63),(24,ua 13),(25,ua 95),(26,ua 56),(27,ua 174),(28,ua 91),(29,ua 96),(30,ua 44),(31,ua 38),(32,ua 49),(33,ua 78),(34,ua 26),(35,ua 112),(36,ua 17),(37,ua 33),(39,ua 5),(40,ua 17),(42,ua 5),(43,ua 4),(44,ua 17),(50,ua 48),(55,ua 75),(56,ua 20),(57,ua 16),(58,ua 9),(59,ua 7),(60,ua 7),(61,ua 12),(62,ua 95),(63,ua 75),(64,ua 79),(65,ua 41),(66,ua 40),(68,ua 5),(69,ua 66),(72,ua 9),(75,ua 6),(76,ua 42),(77,ua 20),(78,ua 21),(79,ua 4),(80,ua 13),(81,ua 7),(82,ua 9),(83,ua 8),(84,ua 8),(85,ua 8),(86,ua 57),(87,ua 8),(88,ua 8),(89,ua 23),(90,ua 68),(91,ua 37),(92,ua 42),(93,ua 54),(94,ua 49),(95,ua 13),(96,ua 6),(97,ua 17),(98,ua 7),(99,ua 78),(100,ua 57),(101,ua 352),(115,ua 19),(124,ua 45),(125,ua 9),(126,ua 21),(127,ua 28),(128,ua 53),(129,ua 19),(130,ua 17),(131,ua 99),(38,ua 19),(41,ua 14),(67,ua 20),(103,ua 54),(48,ua 8),(47,ua 8),(49,ua 8),(45,ua 33),(51,ua 14),(46,ua 11)]
 jS:=Pk false [(21,true),(22,true),(28,true),(31,true),(34,true),(36,true),(37,true),(57,true),(130,true)]
 ext:=Waf
 La:=Pk none [(0,some Uz)]
def La (_:Nat):Option (List UV):=none
theorem lu:xe par La:=fun i row h=>by simp [La] at h
def OK (d:Nat) (f:FuncId) (s:Spec):Prop:=∀ k,d<=k->Me (V.call par k) f s
def OKY (d:Nat) (s:Spec):Prop:=∀ k,d<=k->Ai (V.call par k) s
def Sn (d:Nat) (l:List (FuncId×Spec)):Prop:=∀ k,d<=k->∀ p∈l,Me (V.call par k) p.1 p.2
def Wu (d:Nat) (l:List (FuncId×Spec)):Prop:=∀ k,d<=k->∀ p∈l,Ai (V.call par k) p.2
theorem cn {d:Nat}:Sn d []:=fun _ _=>C8
theorem cyn {d:Nat}:Wu d []:=fun _ _=>S7
theorem cc {d0 d:Nat} {f:FuncId} {s:Spec} {l:List (FuncId×Spec)} (h:OK d0 f s) (hl:Sn d l) (hd:d0<=d:=by omega):Sn d ((f,s)::l):=fun k hk=>sM (h k (Ib hd hk)) (hl k hk)
def FS.tk {A R:Type} (S:FS A R) (args:List UV) (H:UH):Bool:=(S.sk.take args H).isSome
def alt (b:List UV->UH->Bool) (s g:Spec):Spec:=fun X args H K=>cond (b args H) (s X args H K) (g X args H K)
theorem cA {d0 d:Nat} {f:FuncId} {b:List UV->UH->Bool} {s g:Spec} {l:List (FuncId×Spec)} (h:OK d0 f s) (hl:Sn d ((f,g)::l)) (hd:d0<=d:=by omega):Sn d ((f,alt b s g)::l):=fun k hk=>
 sM (fun X args H K out ho=>by
  unfold alt at ho;cases hb:b args H<;>rw [hb] at ho
  · exact hl k hk _ zc X args H K out ho
  · exact h k (Ib hd hk) X args H K out ho) fun p hp=>hl k hk p (Gb _ hp)
theorem ccy {d0 d:Nat} {f:FuncId} {s:Spec} {l:List (FuncId×Spec)} (h:OKY d0 s) (hl:Wu d l) (hd:d0<=d:=by omega):Wu d ((f,s)::l):=fun k hk=>DZ (h k (Ib hd hk)) (hl k hk)
theorem Aa {d:Nat} {l:List (FuncId×Spec)} (h:Sn d l):∀ k,d<=k->Sa (V.call par k) (Cb l):=fun k hk=>YI (h k hk)
theorem uj {d:Nat} {l ly:List (FuncId×Spec)} (h:Sn d l) (hy:Wu d ly):∀ k,d<=k->Sa (V.call par k) (ir l ly):=fun k hk=>WL (h k hk) (hy k hk)
theorem nai {d:Nat} {env:Env} (Si:∀ k,d<=k->Sa (V.call par k) env.call) {f:FuncId} {fn:Func} {za:List Nat} {sh:Sh} {fz:Bool}
  (hd:(par.fns f,(match fn.body with|some _=>true|none=>false),par.ext f,par.loc f,par.keep f,par.jS f)=(some fn,true,none,za,ua fn.ntmps,fz))
  (hl:∀ {C:V.Callee},Sa C env.call->∀ c'∈loops env.join (vb fn),Va env.loop (vc par C true za fn.ntmps) c') {A' R:Type} {S:FS A' R} {m:A'->Option R} {mc:(X:Type)->A'->(R->Option X)->Option X}
  (Wd:∀ X a K,QH par La env za fn sh fz (S.sk.args (S.n a)) (S.sk.heap (S.n a)) K=mc X a (fun r=>S.o _ a r K))
  (Ri:∀ X a K,mc X a K=(m a).bind K) (gh:∀ u,S.n (S.a u)=u):OK (d+1) f (S.sp m):=by
 intro k hk;obtain ⟨k,rfl⟩:∃ j,k=j+1:=⟨k-1,by omega⟩;have hc:=Si k (by omega);simp only [Prod.mk.injEq] at hd;obtain ⟨h1,h2,h3,h4,h5,h6⟩:=hd;have hb:fn.body=some (vb fn):=by
  unfold vb;cases hb:fn.body with
  |none=>rw [hb] at h2;simp at h2
  |some c=>rfl
 exact K1 lu hc h1 hb h3 h4 h5 h6 (hl hc) S Wd Ri gh
theorem EZ {d:Nat} {env:Env} (Si:∀ k,d<=k->Sa (V.call par k) env.call) {id:Nat} {r:RFn} (fK:rfT id=r)
  (h1:∀ {C:V.Callee},Sa C env.call->∀ c'∈loops env.join r.assign,Va env.loop (vc par C false [] r.n) c') (h2:∀ {C:V.Callee},Sa C env.call->∀ c'∈loops env.join r.body,Va env.loop (vc par C false [] r.n) c') {A' R:Type} {S:FS A' R} {m:A'->Option R} {mc:(X:Type)->A'->(R->Option X)->Option X}
  (Wd:∀ X a K,lM par La env id r (S.sk.args (S.n a)) (S.sk.heap (S.n a)) K=mc X a (fun r=>S.o _ a r K))
  (Ri:∀ X a K,mc X a K=(m a).bind K) (gh:∀ u,S.n (S.a u)=u):OKY (d+1) (S.sp m):=by
 intro k hk;obtain ⟨k,rfl⟩:∃ j,k=j+1:=⟨k-1,by omega⟩;have hc:=Si k (by omega);exact CZ lu hc fK (h1 hc) (h2 hc) S Wd Ri gh
theorem nn:(∀ {α β:Type} (b:Bool) (x y:Option α) (k:α->Option β),(cond b x y).bind k=cond b (x.bind k) (y.bind k))/\(∀ {α β:Type} (b:Bool) (x:Option α) (k:α->Option β),(ask b x).bind k=ask b (x.bind k))/\(∀ {α β γ δ:Type} (e:α ⊕ β) (f:α->Option γ) (g:β->Option γ) (k:γ->Option δ),(e.elim f g).bind k=e.elim (fun a=>(f a).bind k) (fun a=>(g a).bind k))/\(∀ {α β γ:Type} (x:Option α) (f:α->Option β) (g:β->Option γ),(x.bind f).bind g=x.bind fun a=>(f a).bind g)/\
  (∀ {α β:Type} (a:α) (f:α->Option β),(some a).bind f=f a)/\(∀ {α β:Type} (f:α->Option β),(none:Option α).bind f=none)/\(∀ {α β γ:Type} (f:α->γ) (g:β->γ) (a:α),Sum.elim f g (.inl a)=f a)/\∀ {α β γ:Type} (f:α->γ) (g:β->γ) (b:β),Sum.elim f g (.inr b)=g b:=
 ⟨n1,n2,n3,n4,n5,n6,n7,n8⟩
theorem fO {d:Nat} {env:Env} (Si:∀ k,d<=k->Sa (V.call par k) env.call) {f:FuncId} {fn:Func} {A' R:Type} {S:FS A' R} {m:A'->Option R} {mc:(X:Type)->A'->(R->Option X)->Option X} (Ri:∀ X a K,mc X a K=(m a).bind K) (za:List Nat:=[]) (sh:Sh:= .any) (fz:Bool:=false)
 (hl:∀ {C:V.Callee},Sa C env.call->∀ c'∈loops env.join (vb fn),Va env.loop (vc par C true za fn.ntmps) c':=by intro _ _;refine Yc ?_ Bc;kernel_rfl)
 (hd:(par.fns f,(match fn.body with|some _=>true|none=>false),par.ext f,par.loc f,par.keep f,par.jS f)=(some fn,true,none,za,ua fn.ntmps,fz):=by kernel_rfl)
 (Wd:∀ X a K,QH par La env za fn sh fz (S.sk.args (S.n a)) (S.sk.heap (S.n a)) K=mc X a (fun r=>S.o _ a r K):=by intro _ _ _;kernel_rfl) (gh:∀ u,S.n (S.a u)=u:=by intro _;rfl):OK (d+1) f (S.sp m):=nai Si hd hl Wd Ri gh
section
variable {C:V.Callee} {rf:Bool} {za:List Nat} {n:Nat}
theorem lO {env:Env} (hc:Sa C env.call) {c:Code} {P T E:Type} (L:LD P T E) (Ri:∀ Y p t ki ke,L.st Y p t ki ke=(L.m p t).bind (Sum.elim ki ke))
 (hl:∀ c'∈loops env.join c,Va env.loop (vc par C rf za n) c':=by refine Yc ?_ Bc;kernel_rfl)
 (hk:(Qk n L.Je&&L.pe.all fun q=>Qk n q.2)=true:=by kernel_rfl)
 (ij:∀ p t,code par La env za n c (L.sk.fill (L.n p t)) (sU L.Je (Qv L.pe))=L.st _ p t (fun t=>some (.inl (L.sk.fill (L.n p t)))) (fun e=>some (.inr (L.o _ p e Prod.mk))):=by intro _ _;kernel_rfl)
 (gh:∀ u,L.n (L.p u) (L.t u)=u:=by intro _;rfl) (ho:∀ Z p e K,L.o Z p e K=K (L.o _ p e Prod.mk).1 (L.o _ p e Prod.mk).2:=by intro _ _ e _;first|rfl|(rcases e with e|e<;>rfl)|(rcases e with e|e|e<;>rfl)|(rcases e with e|e|e|e<;>rfl)|exact nomatch e)
 (hq:∀ X s K,env.loop X (bf c) s K=L.q X s K:=by intro _ _ _;kernel_rfl):Va env.loop (vc par C rf za n) (.loop c):=qP lu hc hl L hk Ri ij gh ho hq
theorem pO {env Lg:Env} (hc:Sa C env.call) (Sf:Lg.call=env.call) {c:Code} {P E:Type} (L:PD P E) (Ri:∀ Y p ke,L.st Y p ke=(L.m p).bind ke)
 (hl:∀ c'∈loops Lg.join c,Va Lg.loop (vc par C rf za n) c':=by refine Yc ?_ Bc;kernel_rfl)
 (hk:(Qk n L.Je&&L.pe.all fun q=>Qk n q.2)=true:=by kernel_rfl)
 (ij:∀ p,code par La Lg za n c (L.sk.fill (L.n p)) (fun ex s=>(To (Qv L.pe ex) s).bind fun s=>some (ex,s))=L.st _ p (fun e=>some (L.o _ p e Prod.mk)):=by intro _;kernel_rfl)
 (gh:∀ u,L.n (L.p u)=u:=by intro _;rfl) (ho:∀ Z p e K,L.o Z p e K=K (L.o _ p e Prod.mk).1 (L.o _ p e Prod.mk).2:=by intro _ _ e _;first|rfl|(rcases e with e|e<;>rfl)|(rcases e with e|e|e<;>rfl)|(rcases e with e|e|e|e<;>rfl)|exact nomatch e)
 (hq:∀ X s K,env.loop X (keyOf c) s K=L.q X s K:=by intro _ _ _;kernel_rfl):Va env.loop (vc par C rf za n) c:=MJ lu hc Sf hl L hk Ri ij gh ho hq
theorem rO {env:Env} (hc:Sa C env.call) {id:Nat} {ks:List Nat} {g:Operand} {ps:Array Tmp} {a b:Code} {P E:Type} (L:PD P E) (Ri:∀ Y p ke,L.st Y p ke=(L.m p).bind ke) (fK:sB.rf id=⟨n,ps.toList,a,b⟩:=by kernel_rfl)
 (hk:(Qk n L.Je&&L.pe.all fun q=>Qk n q.2)=true:=by kernel_rfl)
 (ij:∀ p,WG par La env id n ks g (L.sk.fill (L.n p)) (fun ex s=>(To (Qv L.pe ex) s).bind fun s=>some (ex,s))=L.st _ p (fun e=>some (L.o _ p e Prod.mk)):=by intro _;kernel_rfl)
 (gh:∀ u,L.n (L.p u)=u:=by intro _;rfl) (ho:∀ Z p e K,L.o Z p e K=K (L.o _ p e Prod.mk).1 (L.o _ p e Prod.mk).2:=by intro _ _ e _;first|rfl|(rcases e with e|e<;>rfl)|(rcases e with e|e|e<;>rfl)|(rcases e with e|e|e|e<;>rfl)|exact nomatch e)
 (hq:∀ X s K,env.loop X (keyOf (.rangeFunc g ps a b)) s K=L.q X s K:=by intro _ _ _;kernel_rfl):Va env.loop (vc par C true za n) (.rangeFunc g ps a b):=LJ lu hc rfl fK L hk Ri ij gh ho hq
end
abbrev tc:Sk:= .cons (.lit zb) (.cons (.int .i64) (.cons (.int .i64) (.cons (.int .i64) (.cons (.lit Na) (.cons (.lit yb) (.cons (.lit Na) (.cons (.lit ja) .nil)))))))
abbrev Wc:Sk:= .cons (.int .i64) (.cons (.int .i64) (.cons (.int .i64) (.cons (.int .i64) (.cons (.int .i64) (.cons (.int .i64) (.cons (.int .i64) (.cons (.int .i64) .nil)))))))
abbrev jA:Sk:= .cons (.int .i64) (.cons (.int .i64) (.cons (.int .i64) (.cons (.int .i64) .nil)))
abbrev wh:Sk:= .cons (.lit .bool) (.cons (.lit (.pair .bool .bool)) (.cons (.lit ja) .nil))
abbrev L8:Sk:= .cons .str (.cons (.int .i64) (.cons (.int .i64) (.cons (.int .i64) .nil)))
abbrev u0:Sk:= .cons .str (.cons (.int .i64) (.cons (.int .i64) .nil))
abbrev Qi:Sk:= .cons (.int .i64) (.cons (.int .i64) .nil)
abbrev kr0:Sk:= .cons (.lit zb) (.cons (.int .i64) (.cons (.int .i64) (.cons (.int .i64) (.cons (.lit Na) (.cons (.lit yb) (.cons (.lit Na) (.cons (.lit ja) (.cons (.lit (.int .i64)) (.cons (.int .i64) (.cons (.all 1) (.cons (.int .i64) (.cons (.int .i64) (.cons (.int .i64) (.cons (.int .i64) (.cons (.int .i64) (.cons (.int .i64) (.cons .Wa (.cons (.all 2) (.cons .Wa .nil)))))))))))))))))))
abbrev K8:Sk:= .cons (.all 2) (.cons (.all 3) (.cons (.all 4) .nil))
abbrev DG:Sk:= .cons (.lit zb) (.cons (.int .i64) (.cons (.int .i64) (.cons (.int .i64) (.cons (.lit Na) (.cons (.lit yb) (.cons (.lit Na) (.cons (.lit ja) (.cons (.lit (.int .i64)) (.cons (.int .i64) (.cons (.all 1) (.cons (.int .i64) (.cons (.int .i64) (.cons (.int .i64) (.cons (.int .i64) (.cons (.int .i64) (.cons (.int .i64) (.cons .Wa (.cons (.all 2) (.cons (.all 3) .nil)))))))))))))))))))
abbrev J8:Sk:= .cons (.lit zb) (.cons (.int .i64) (.cons (.int .i64) (.cons (.int .i64) (.cons (.lit Na) (.cons (.lit yb) (.cons (.lit Na) (.cons (.lit ja) (.cons (.lit (.int .i64)) (.cons (.int .i64) (.cons (.all 3) (.cons (.int .i64) (.cons (.int .i64) (.cons (.int .i64) (.cons (.int .i64) (.cons (.int .i64) (.cons (.int .i64) (.cons .Wa (.cons (.all 4) (.cons (.all 5) .nil)))))))))))))))))))
abbrev kr5:Sk:= .cons (.lit zb) (.cons (.int .i64) (.cons (.int .i64) (.cons (.int .i64) (.cons (.lit Na) (.cons (.lit yb) (.cons (.lit Na) (.cons (.lit ja) (.cons (.lit (.int .i64)) (.cons (.int .i64) (.cons (.all 8) (.cons (.int .i64) (.cons (.int .i64) (.cons (.int .i64) (.cons (.int .i64) (.cons (.int .i64) (.cons (.int .i64) (.cons .Wa (.cons (.all 9) (.cons (.all 10) .nil)))))))))))))))))))
abbrev Z4:Sk:= .cons (.all 3) (.cons (.all 4) (.cons (.all 5) .nil))
abbrev X4:Sk:= .cons (.all 3) (.cons (.all 4) (.cons (.all 6) .nil))
abbrev eZ:Sk:= .cons (.all 1) (.cons (.all 2) (.cons (.all 3) .nil))
abbrev kr9:Sk:= .cons (.all 6) (.cons (.all 7) (.cons (.all 8) .nil))
abbrev Y0:Type:=Ba×(List Int)×Fb
abbrev Y1:Type:=(List Int)×(List Fb)×Int×Int×Ba×Fb
abbrev Y2:Type:=(List Fb)×(List Tc)×(List Xd)×(List Tc)×(List Ra)
abbrev Y3:Type:=(List Bool)×(List (Bool×Bool))×(List Ra)
abbrev Y4:Type:=Ba×(List Int)×Int
abbrev Y5:Type:=Int×(List Int)×(List (List Int))
abbrev Y6:Type:=Int×(List (List Int))
abbrev Y7:Type:=Int×Int×Int×(List Bool)×(List (Bool×Bool))×(List Ra)×Int×(List Fb)×Int×Int×Int×(List Tc)×(List Xd)×(List Tc)×(List Ra)×(List Int)×(List (List Int))
abbrev Y8:Type:=(List Bool)×(List (Bool×Bool))×Int
abbrev YD:Type:=Int×Int×Int×(List Int)
abbrev Y14:Type:=Int×Int×(List Int)
abbrev Y15:Type:=Int×Int×Int×(List (List Int))
abbrev Y17:Type:=Int×Int×(List (List Int))
abbrev Tx:Type:=Fb×(List Fb)×Int×Int×Int×(List Tc)×(List Xd)×(List Tc)×(List Ra)×(List Int)×Int×Int×Int×Int×Int×Int×Int×(List Int)×(List (List Int))×(List (List Int))
abbrev Y19:Type:=Fb×Int×(List Fb)×Int×Int×Int×(List Tc)×(List Xd)×(List Tc)×(List Ra)×(List Int)×Int×Int×Int×Int×Int×Int×Int×(List Int)×(List (List Int))×(List (List Int))
abbrev AO:Type:=Fb×Bool×(List Fb)×Int×Int×Int×(List Tc)×(List Xd)×(List Tc)×(List Ra)×(List Int)×Int×Int×Int×Int×Int×Int×Int×(List Int)×(List (List Int))×(List (List Int))
abbrev Y21:Type:=Int×(List Fb)×Int×Int×Int×(List Tc)×(List Xd)×(List Tc)×(List Ra)×(List Int)×Int×Int×Int×Int×Int×Int×Int×(List Int)×(List (List Int))×(List (List Int))
abbrev Y22:Type:=(List Fb)×Int×Int×Int×(List Tc)×(List Xd)×(List Tc)×(List Ra)×(List Int)×Int×Int×Int×Int×Int×Int×Int×(List Int)×(List (List Int))×(List (List Int))
abbrev Y23:Type:=Ba×(List Int)×Int×Int×Int×Int×Int×Int×Int×(List Int)×(List (List Int))×(List (List Int))
abbrev Y24:Type:=Ba×(List Int)×Int×Int×(List Bool)×(List (Bool×Bool))×(List Ra)×Int×Ba
abbrev Y25:Type:=Int×Int×Int×Int×Int×(List Int)×Int×(List Bool)×(List (Bool×Bool))×Int×(List (List Int))×(List (List Int))
abbrev Y26:Type:=Int×(List Bool)×(List (Bool×Bool))×Int×Int×Int×Int×Int×Int×Int×Int×(List Int)×(List (List Int))×(List (List Int))
abbrev Y27:Type:=Ra×(List Ra)
abbrev Y28:Type:=eM×(List Bool)×(List (Bool×Bool))×(List Ra)
abbrev Y29:Type:=Pa×(List Bool)×(List (Bool×Bool))×(List Ra)
abbrev zO:Type:=Int×(List Bool)×(List (Bool×Bool))×(List Ra)
abbrev Y31:Type:=Ba×(List (List Int))×Int
abbrev Y32:Type:=(List Bool)×(List (Bool×Bool))×(List Ra)×Int
abbrev Y33:Type:=Int×Int×Int×(Bool×Bool)×Pa
abbrev Y34:Type:=Pa×(List Bool)×(List (Bool×Bool))×(List Ra)×Int
abbrev Y35:Type:=(List Bool)×(List (Bool×Bool))×(List Ra)×(List Bool)×(List (Bool×Bool))×(List Ra)×Bool
abbrev Y36:Type:=(List (Bool×Bool))×((List Ra)×Bool)
abbrev Y37:Type:=(List Bool)×(List (Bool×Bool))×(List Ra)×(List Bool)×(List (Bool×Bool))×(List Ra)
abbrev Y38:Type:=(List (Bool×Bool))×((List Ra)×Pa)
abbrev Y39:Type:=(List (List Int))×Int
abbrev Y40:Type:=(List Int)×(List Int)
abbrev Y41:Type:=Ba×(List Bool)×(List (Bool×Bool))×(List Ra)
abbrev _root_.Prod.t3 {A0 A1 A2 A3:Type} (x:A0×A1×A2×A3):A3:=x.2.2.2
abbrev _root_.Prod.t4 {A0 A1 A2 A3 A4:Type} (x:A0×A1×A2×A3×A4):A4:=x.2.2.2.2
abbrev _root_.Prod.t5 {A0 A1 A2 A3 A4 A5:Type} (x:A0×A1×A2×A3×A4×A5):A5:=x.2.2.2.2.2
abbrev _root_.Prod.t6 {A0 A1 A2 A3 A4 A5 A6:Type} (x:A0×A1×A2×A3×A4×A5×A6):A6:=x.2.2.2.2.2.2
abbrev _root_.Prod.t7 {A0 A1 A2 A3 A4 A5 A6 A7:Type} (x:A0×A1×A2×A3×A4×A5×A6×A7):A7:=x.2.2.2.2.2.2.2
abbrev _root_.Prod.t8 {A0 A1 A2 A3 A4 A5 A6 A7 A8:Type} (x:A0×A1×A2×A3×A4×A5×A6×A7×A8):A8:=x.2.2.2.2.2.2.2.2
abbrev _root_.Prod.t9 {A0 A1 A2 A3 A4 A5 A6 A7 A8 A9:Type} (x:A0×A1×A2×A3×A4×A5×A6×A7×A8×A9):A9:=x.2.2.2.2.2.2.2.2.2
abbrev _root_.Prod.t10 {A0 A1 A2 A3 A4 A5 A6 A7 A8 A9 po:Type} (x:A0×A1×A2×A3×A4×A5×A6×A7×A8×A9×po):po:=x.2.2.2.2.2.2.2.2.2.2
abbrev _root_.Prod.t11 {A0 A1 A2 A3 A4 A5 A6 A7 A8 A9 po Eo:Type} (x:A0×A1×A2×A3×A4×A5×A6×A7×A8×A9×po×Eo):Eo:=x.2.2.2.2.2.2.2.2.2.2.2
abbrev _root_.Prod.t12 {A0 A1 A2 A3 A4 A5 A6 A7 A8 A9 po Eo ur:Type} (x:A0×A1×A2×A3×A4×A5×A6×A7×A8×A9×po×Eo×ur):ur:=x.2.2.2.2.2.2.2.2.2.2.2.2
abbrev _root_.Prod.t13 {A0 A1 A2 A3 A4 A5 A6 A7 A8 A9 po Eo ur Xr:Type} (x:A0×A1×A2×A3×A4×A5×A6×A7×A8×A9×po×Eo×ur×Xr):Xr:=x.2.2.2.2.2.2.2.2.2.2.2.2.2
abbrev _root_.Prod.t14 {A0 A1 A2 A3 A4 A5 A6 A7 A8 A9 po Eo ur Xr Dt:Type} (x:A0×A1×A2×A3×A4×A5×A6×A7×A8×A9×po×Eo×ur×Xr×Dt):Dt:=x.2.2.2.2.2.2.2.2.2.2.2.2.2.2
abbrev _root_.Prod.t15 {A0 A1 A2 A3 A4 A5 A6 A7 A8 A9 po Eo ur Xr Dt tv:Type} (x:A0×A1×A2×A3×A4×A5×A6×A7×A8×A9×po×Eo×ur×Xr×Dt×tv):tv:=x.2.2.2.2.2.2.2.2.2.2.2.2.2.2.2
abbrev _root_.Prod.t16 {A0 A1 A2 A3 A4 A5 A6 A7 A8 A9 po Eo ur Xr Dt tv Vx:Type} (x:A0×A1×A2×A3×A4×A5×A6×A7×A8×A9×po×Eo×ur×Xr×Dt×tv×Vx):Vx:=x.2.2.2.2.2.2.2.2.2.2.2.2.2.2.2.2
abbrev _root_.Prod.t17 {A0 A1 A2 A3 A4 A5 A6 A7 A8 A9 po Eo ur Xr Dt tv Vx qz:Type} (x:A0×A1×A2×A3×A4×A5×A6×A7×A8×A9×po×Eo×ur×Xr×Dt×tv×Vx×qz):qz:=x.2.2.2.2.2.2.2.2.2.2.2.2.2.2.2.2.2
abbrev _root_.Prod.t18 {A0 A1 A2 A3 A4 A5 A6 A7 A8 A9 po Eo ur Xr Dt tv Vx qz FB:Type} (x:A0×A1×A2×A3×A4×A5×A6×A7×A8×A9×po×Eo×ur×Xr×Dt×tv×Vx×qz×FB):FB:=x.2.2.2.2.2.2.2.2.2.2.2.2.2.2.2.2.2.2
abbrev _root_.Prod.t19 {A0 A1 A2 A3 A4 A5 A6 A7 A8 A9 po Eo ur Xr Dt tv Vx qz FB bE:Type} (x:A0×A1×A2×A3×A4×A5×A6×A7×A8×A9×po×Eo×ur×Xr×Dt×tv×Vx×qz×FB×bE):bE:=x.2.2.2.2.2.2.2.2.2.2.2.2.2.2.2.2.2.2.2
abbrev _root_.Prod.t20 {A0 A1 A2 A3 A4 A5 A6 A7 A8 A9 po Eo ur Xr Dt tv Vx qz FB bE JG:Type} (x:A0×A1×A2×A3×A4×A5×A6×A7×A8×A9×po×Eo×ur×Xr×Dt×tv×Vx×qz×FB×bE×JG):JG:=x.2.2.2.2.2.2.2.2.2.2.2.2.2.2.2.2.2.2.2.2
abbrev _root_.Prod.t21 {A0 A1 A2 A3 A4 A5 A6 A7 A8 A9 po Eo ur Xr Dt tv Vx qz FB bE JG qJ:Type} (x:A0×A1×A2×A3×A4×A5×A6×A7×A8×A9×po×Eo×ur×Xr×Dt×tv×Vx×qz×FB×bE×JG×qJ):qJ:=x.2.2.2.2.2.2.2.2.2.2.2.2.2.2.2.2.2.2.2.2.2
abbrev _root_.Prod.t22 {A0 A1 A2 A3 A4 A5 A6 A7 A8 A9 po Eo ur Xr Dt tv Vx qz FB bE JG qJ EO:Type} (x:A0×A1×A2×A3×A4×A5×A6×A7×A8×A9×po×Eo×ur×Xr×Dt×tv×Vx×qz×FB×bE×JG×qJ×EO):EO:=x.2.2.2.2.2.2.2.2.2.2.2.2.2.2.2.2.2.2.2.2.2.2
abbrev _root_.Prod.t23 {A0 A1 A2 A3 A4 A5 A6 A7 A8 A9 po Eo ur Xr Dt tv Vx qz FB bE JG qJ EO nS:Type} (x:A0×A1×A2×A3×A4×A5×A6×A7×A8×A9×po×Eo×ur×Xr×Dt×tv×Vx×qz×FB×bE×JG×qJ×EO×nS):nS:=x.2.2.2.2.2.2.2.2.2.2.2.2.2.2.2.2.2.2.2.2.2.2.2
abbrev _root_.Prod.t24 {A0 A1 A2 A3 A4 A5 A6 A7 A8 A9 po Eo ur Xr Dt tv Vx qz FB bE JG qJ EO nS yZ:Type} (x:A0×A1×A2×A3×A4×A5×A6×A7×A8×A9×po×Eo×ur×Xr×Dt×tv×Vx×qz×FB×bE×JG×qJ×EO×nS×yZ):yZ:=x.2.2.2.2.2.2.2.2.2.2.2.2.2.2.2.2.2.2.2.2.2.2.2.2
abbrev _root_.Prod.t25 {A0 A1 A2 A3 A4 A5 A6 A7 A8 A9 po Eo ur Xr Dt tv Vx qz FB bE JG qJ EO nS yZ Q7:Type} (x:A0×A1×A2×A3×A4×A5×A6×A7×A8×A9×po×Eo×ur×Xr×Dt×tv×Vx×qz×FB×bE×JG×qJ×EO×nS×yZ×Q7):Q7:=x.2.2.2.2.2.2.2.2.2.2.2.2.2.2.2.2.2.2.2.2.2.2.2.2.2
abbrev _root_.Prod.t26 {A0 A1 A2 A3 A4 A5 A6 A7 A8 A9 po Eo ur Xr Dt tv Vx qz FB bE JG qJ EO nS yZ Q7 A26:Type} (x:A0×A1×A2×A3×A4×A5×A6×A7×A8×A9×po×Eo×ur×Xr×Dt×tv×Vx×qz×FB×bE×JG×qJ×EO×nS×yZ×Q7×A26):A26:=x.2.2.2.2.2.2.2.2.2.2.2.2.2.2.2.2.2.2.2.2.2.2.2.2.2.2
abbrev _root_.Prod.t27 {A0 A1 A2 A3 A4 A5 A6 A7 A8 A9 po Eo ur Xr Dt tv Vx qz FB bE JG qJ EO nS yZ Q7 A26 A27:Type} (x:A0×A1×A2×A3×A4×A5×A6×A7×A8×A9×po×Eo×ur×Xr×Dt×tv×Vx×qz×FB×bE×JG×qJ×EO×nS×yZ×Q7×A26×A27):A27:=x.2.2.2.2.2.2.2.2.2.2.2.2.2.2.2.2.2.2.2.2.2.2.2.2.2.2.2
abbrev _root_.Prod.t28 {A0 A1 A2 A3 A4 A5 A6 A7 A8 A9 po Eo ur Xr Dt tv Vx qz FB bE JG qJ EO nS yZ Q7 A26 A27 A28:Type} (x:A0×A1×A2×A3×A4×A5×A6×A7×A8×A9×po×Eo×ur×Xr×Dt×tv×Vx×qz×FB×bE×JG×qJ×EO×nS×yZ×Q7×A26×A27×A28):A28:=x.2.2.2.2.2.2.2.2.2.2.2.2.2.2.2.2.2.2.2.2.2.2.2.2.2.2.2.2
abbrev q3 {A B C Z:Type} (x:A×B×C×Z):A×B×C:=(x.1,x.2.1,x.2.2.1)
abbrev q4 {A B C D Z:Type} (x:A×B×C×D×Z):A×B×C×D:=(x.1,x.2.1,x.2.2.1,x.2.2.2.1)
abbrev q5 {A B C D E Z:Type} (x:A×B×C×D×E×Z):A×B×C×D×E:=(x.1,x.2.1,x.2.2.1,x.2.2.2.1,x.2.2.2.2.1)
abbrev q6 {A B C D E F Z:Type} (x:A×B×C×D×E×F×Z):A×B×C×D×E×F:=(x.1,x.2.1,x.2.2.1,x.2.2.2.1,x.2.2.2.2.1,x.2.2.2.2.2.1)
abbrev q8 {A B C D E F G H Z:Type} (x:A×B×C×D×E×F×G×H×Z):A×B×C×D×E×F×G×H:=(x.1,x.2.1,x.2.2.1,x.2.2.2.1,x.2.2.2.2.1,x.2.2.2.2.2.1,x.2.2.2.2.2.2.1,x.2.2.2.2.2.2.2.1)
abbrev w3 {A B C:Type} (x:A×B×C):A×B×C×Unit:=(x.1,x.2.1,x.2.2,())
abbrev w4 {A B C D:Type} (x:A×B×C×D):A×B×C×D×Unit:=(x.1,x.2.1,x.2.2.1,x.2.2.2,())
abbrev w6 {A B C D E F:Type} (x:A×B×C×D×E×F):A×B×C×D×E×F×Unit:=(x.1,x.2.1,x.2.2.1,x.2.2.2.1,x.2.2.2.2.1,x.2.2.2.2.2,())
abbrev w8 {A B C D E F G H:Type} (x:A×B×C×D×E×F×G×H):A×B×C×D×E×F×G×H×Unit:=(x.1,x.2.1,x.2.2.1,x.2.2.2.1,x.2.2.2.2.1,x.2.2.2.2.2.1,x.2.2.2.2.2.2.1,x.2.2.2.2.2.2.2,())
end Go.U
namespace Go.U
open Go Go.Proofs
def qac (n:Int):ByteArray:=⟨(Lib.itoa n).toArray⟩
def clone {α:Type} (n:Nat) (a:List α):Option (List α):=ask (decide (a.length * n<=70368744177664)&&decide (a.length<9223372036854775808)) (some a)
abbrev ey:=V.ey
abbrev Xg:=V.Xg
abbrev Qe:=V.Qe
def eG (a:Int×Int):Option ByteArray:=ask (decide (-9223372036854775808<=a.1)&&decide (a.1<=9223372036854775807)&&decide (a.2=10)) (some (qac a.1))
def Kx (a:ByteArray×ByteArray):Option (Int×ByteArray):=ask (decide (a.2.size+a.1.size<=70368744177664)) (some (nt a.1.size,a.2++a.1))
def U6 (a:ByteArray):Option ByteArray:=some a
def IN (a:List Bool):Option (List Bool):=clone 1 a
def HN (a:List (Bool×Bool)):Option (List (Bool×Bool)):=clone 2 a
def GN (a:List Ra):Option (List Ra):=clone 16 a
def tD (a:List Ra):Option (List Ra):=ask (decide (a.length<4611686018427387904)) (some (Xg a))
def AI (a:List Int):Option (List Int):=ask (decide (a.length<4611686018427387904)) (some (Qe a))
def vD (a:Int×Int×List Int):Option (List Int):=ask (decide (0<=a.1)&&decide (a.1<=a.2.1)&&decide (a.2.1<=a.2.2.length)) (some (a.2.2.take a.1.toNat++a.2.2.drop a.2.1.toNat))
def O6:FS ((List Bool)) ((List Bool)) where
 sk:=⟨(.cons (.all 0) .nil),[.cells .bool],1⟩
 a:=fun u=>u.2.1
 n:=fun a=>(((),()),(a,()))
 o:=fun Z a r K=>K (.all 1) ⟨[.cells .bool a,.cells .bool r],1⟩
def kL:Spec:=O6.sp IN
def N6:FS ((List (Bool×Bool))) ((List (Bool×Bool))) where
 sk:=⟨(.cons (.all 0) .nil),[.cells (.pair .bool .bool)],1⟩
 a:=fun u=>u.2.1
 n:=fun a=>(((),()),(a,()))
 o:=fun Z a r K=>K (.all 1) ⟨[.cells (.pair .bool .bool) a,.cells (.pair .bool .bool) r],1⟩
def jL:Spec:=N6.sp HN
def M6:FS ((List Ra)) ((List Ra)) where
 sk:=⟨(.cons (.all 0) .nil),[.cells ja],1⟩
 a:=fun u=>u.2.1
 n:=fun a=>(((),()),(a,()))
 o:=fun Z a r K=>K (.all 1) ⟨[.cells ja a,.cells ja r],1⟩
def iL:Spec:=M6.sp GN
def K6:FS ((List Ra)) ((List Ra)) where
 sk:=⟨(.cons (.all 0) (.cons (.fn 52 .nil) .nil)),[.cells ja],0⟩
 a:=fun u=>u.2.1
 n:=fun a=>(((),((),())),(a,()))
 o:=fun Z a r K=>K (.Rc []) ⟨[.cells ja r],0⟩
def dL:Spec:=K6.sp tD
def Q6:FS (Int×Int×(List Int)) ((List Int)) where
 sk:=⟨(.cons (.all 0) (.cons (.int .i64) (.cons (.int .i64) .nil))),[.cells (.int .i64)],0⟩
 a:=fun u=>(u.1.2.1,u.1.2.2.1,u.2.1)
 n:=fun a=>(((),(a.1,(a.2.1,()))),(a.2.2,()))
 o:=fun Z a r K=>K (.all 1) ⟨[.dead,.cells (.int .i64) r],0⟩
def ZW:Spec:=Q6.sp vD
def P6:FS ((List Int)) ((List Int)) where
 sk:=⟨(.cons (.all 0) .nil),[.cells (.int .i64)],0⟩
 a:=fun u=>u.2.1
 n:=fun a=>(((),()),(a,()))
 o:=fun Z a r K=>K (.Rc []) ⟨[.cells (.int .i64) r],0⟩
def YW:Spec:=P6.sp AI
def lY:FS (Int×Int) (ByteArray) where
 sk:=⟨(.cons (.int .i64) (.cons (.int .i64) .nil)),[],0⟩
 a:=fun u=>(u.1.1,u.1.2.1)
 n:=fun a=>((a.1,(a.2,())),())
 o:=fun Z a r K=>K (.str r) ⟨[],0⟩
def oO:Spec:=lY.sp eG
def X6:FS (ByteArray×ByteArray) (Int×ByteArray) where
 sk:=⟨(.cons (.ptr 0 0) (.cons .str .nil)),[.Fl (.all 1),.ko],0⟩
 a:=fun u=>(u.1.2.1,u.2.2.1)
 n:=fun a=>(((),(a.1,())),((),(a.2,())))
 o:=fun Z a r K=>K (.Rc [.int .i64 r.1,.Cg]) ⟨[.Fl (.all 2),.dead,.ko r.2],0⟩
def qX:Spec:=X6.sp Kx
def T6:FS (ByteArray) (ByteArray) where
 sk:=⟨(.cons (.ptr 0 0) .nil),[.Fl (.all 1),.ko],0⟩
 a:=fun u=>u.2.2.1
 n:=fun a=>(((),()),((),(a,())))
 o:=fun Z a r K=>K (.str r) ⟨[.Fl (.all 1),.dead],0⟩
def kX:Spec:=T6.sp U6
theorem O3:OK 1 103 oO:=fun k hk=>by
 obtain ⟨j,rfl⟩:∃ j,k=j+1:=⟨k-1,by omega⟩;refine M1 (A:=par) (f:=103) rfl fun X args H K out h=> ?_
 obtain ⟨u,hu,h⟩:=aa.1 (show (lY.sk.take args H).bind _=some out from h);obtain ⟨h1,h2⟩:=pz.sd hu;obtain ⟨⟨n,b,⟨⟩⟩,⟨⟩⟩:=u;have key:∀ n b:Int,(eG (n,b)).bind (fun r=>K (.str r) ⟨[],0⟩)=some out->(-9223372036854775808<=n/\n<=9223372036854775807/\b=10)/\K (.str ⟨(Lib.itoa n).toArray⟩) ⟨[],0⟩=some out:=fun n b h'=>by
  simp only [eG,ask] at h';by_cases e1: -9223372036854775808<=n<;>by_cases e2:n<=9223372036854775807<;>by_cases e3:b=10<;>simp [e1,e2,e3] at h'
  exact ⟨⟨e1,e2,e3⟩,h'⟩
 exact ⟨n,b,h1.symm,h2.symm,key n b h⟩
theorem U_:OK 1 41 kX:=fun k hk=>by
 obtain ⟨j,rfl⟩:∃ j,k=j+1:=⟨k-1,by omega⟩;refine yS (A:=par) (f:=41) rfl fun X args H K out h=> ?_
 obtain ⟨u,hu,h⟩:=aa.1 (show (T6.sk.take args H).bind _=some out from h);obtain ⟨h1,h2⟩:=pz.sd hu;obtain ⟨⟨⟨⟩,⟨⟩⟩,⟨⟨⟩,s,⟨⟩⟩⟩:=u;exact ⟨s,h1.symm,h2.symm,h⟩
theorem Rab:B4 par #[72,9]:=⟨72,9,rfl,by kernel_rfl,by kernel_rfl,by kernel_rfl,by kernel_rfl,by kernel_rfl⟩
theorem Sab:par.fns 38=some Tryz.f38:=by kernel_rfl
theorem T7:par.ext 38=none:=by kernel_rfl
theorem IZ (k:Nat):VY par (k+2) 38 #[72,9]:=fun H x p q v t H2 h2 h3 hw ha h4 h5 h6=>by
 have uy:V.call par (k+1) (.fn 67 []) [.ptr x 0 0] H=some (.Rc [],V.Ma H x (.cells [[.ptr x 0 0,q]] 2 (some (74,2)))):=by
  have e:V.call par (k+1) (.fn 67 []) [.ptr x 0 0] H=V.Z3 74 [.ptr x 0 0] H:=rfl;rw [e];have hx:H.bl[x]?=some (.cells [[p,q]] 2 (some (74,2))):=h2;simp only [V.Z3,hx];rw [if_pos ⟨trivial,hw,by rcases h3 with rfl|rfl<;>simp [V.okp]⟩]
 have ht1:V.elem? par 72=some 5:=by kernel_rfl
 have e71:par.P.underlying 71=some (.pointer 74):=Tryz.underlying71;have kJ:x<H.bl.length:=by obtain ⟨h,_⟩:=List.getElem?_eq_some_iff.1 h2;exact h
 obtain ⟨fd,FH,hfo,hft⟩:∃ fd,V.field? par 74 1=some fd/\fd.offset=1/\fd.type=72:=by
  have h:(V.field? par 74 1).map (fun fd=>(fd.offset,fd.type))=some (1,72):=by kernel_rfl
  cases h':V.field? par 74 1 with
  |none=>rw [h'] at h;cases h
  |some fd=>rw [h'] at h;simp at h;exact ⟨fd,rfl,h.1,h.2⟩
 have ae:V.size par 72=some 1:=by kernel_rfl
 have QB:par.P.underlying 9=some .string:=Tryz.underlying9;have hb:(V.Ma H x (.cells [[.ptr x 0 0,q]] 2 (some (74,2)))).bl[x]?=some (.cells [[.ptr x 0 0,q]] 2 (some (74,2))):=by rw [Ac,if_pos rfl,if_pos kJ]
 have vo:par.loc 38=[]:=by kernel_rfl
 have Er:par.jS 38=false:=by kernel_rfl
 generalize V.Ma H x (.cells [[.ptr x 0 0,q]] 2 (some (74,2)))=H1 at *
 unfold V.call;rw [T7,Sab];have hag:V.isAgg par 72=some false:=by kernel_rfl
 have bU:v.cells?=some [v]:=by cases v<;>first|rfl|simp [V.AV.DM] at h6
 have iJ:∀ (call:V.Callee) (za:List Nat) (n:Nat) (os:Array Oper) (s:V.S),V.region par call za n os false s=V.ops par call za n os os.toList s:=fun _ _ _ _ _=>rfl
 simp [Tryz.f38,vo,Er,V.code,iJ,V.ops,V.Sc,V.op,V.operand,V.val,V.put,V.get,V.Pg,V.be,V.fh,V.Hf,uy,V.qe,FH,hfo,hft,ae,V.ug,V.load,V.rowAt,hb,V.part,V.builtin,ha,V.store,h4,h5,hw,h6,bU,hag,V.kf,QB,V.results,V.result]
theorem X_:OK 2 38 qX:=fun k hk=>by
 obtain ⟨j,rfl⟩:∃ j,k=j+2:=⟨k-2,by omega⟩;refine GZ (A:=par) (k:=j+1) (f:=38) Rab (IZ j) (fun X args H K out h=> ?_) (fun cs vs H=>by unfold V.call;simp only [Qm]);obtain ⟨u,hu,h⟩:=aa.1 (show (X6.sk.take args H).bind _=some out from h);obtain ⟨h1,h2⟩:=pz.sd hu;obtain ⟨⟨⟨⟩,t,⟨⟩⟩,⟨⟨⟩,s,⟨⟩⟩⟩:=u;have key:∀ s t:ByteArray,(Kx (t,s)).bind (fun r=>K (.Rc [.int .i64 r.1,.Cg]) ⟨[.Fl (.all 2),.dead,.ko r.2],0⟩)=some out->s.size+t.size<=70368744177664/\K (.Rc [.int .i64 t.size,.Cg]) ⟨[.Fl (.all 2),.dead,.ko (s++t)],0⟩=some out:=fun s t h'=>by
  simp only [Kx,ask] at h';by_cases e1:s.size+t.size<=70368744177664<;>simp [e1] at h'
  exact ⟨e1,h'⟩
 obtain ⟨k1,k2⟩:=key s t h;exact ⟨s,t,h1.symm,h2.symm,k1,k2⟩
theorem Iw {α X:Type} {n:Nat} {l:List α} {g:List α->Option X} {out:X} (h:(clone n l).bind g=some out):(l.length * n<=70368744177664/\l.length<9223372036854775808)/\g l=some out:=by
 unfold clone at h;by_cases e1:l.length * n<=70368744177664<;>by_cases e2:l.length<9223372036854775808<;>simp [ask,e1,e2] at h
 exact ⟨⟨e1,e2⟩,h⟩
theorem Aai (k:Nat):sr par (k+1) 47 .bool 1:=by
 have vo:par.loc 47=[]:=by kernel_rfl
 have Er:par.jS 47=false:=by kernel_rfl
 have wo:par.ext 47=none:=by kernel_rfl
 have Lm:par.fns 47=some Tryz.f47:=by kernel_rfl
 obtain ⟨e,z,he,hz,Jy,ae,rZ⟩:∃ e z,V.elem? par 33=some e/\V.zero par e=some z/\z.length=1/\V.size par e=some 1/\V.bytes par e=some 1:=⟨4,[.bool false],by kernel_rfl,by kernel_rfl,rfl,by kernel_rfl,by kernel_rfl⟩;have hu:par.P.underlying 33=some (.slice e):=by
   have:=V.Ui he;exact this
 have iJ:∀ (call:V.Callee) (za:List Nat) (n:Nat) (os:Array Oper) (s:V.S),V.region par call za n os false s=V.ops par call za n os os.toList s:=fun _ _ _ _ _=>rfl
 have Om:∀ H:V.AH,V.buildSlice par H 33 0 []=some (.Kd,H):=fun H=>by
   simp [V.buildSlice,he,hz,Jy,ae]
 have LH:∀ (H:V.AH) (x y:V.AV),V.rowsOf H x=some []->V.rowsOf H y=some []->(∀ s,y≠ .str s)->V.append par H #[33,33] x y=some (x,H):=fun H x y h1 h2 h3=>by
   cases y<;>first|exact absurd rfl (h3 _)|simp [V.append,he,hz,rZ,Jy,ae,hu,h1,h2]
 have q1:V.og par 33 .Wa .Wa=some true:=by simp [V.og,hu]
 have q2:V.og par 33 .Kd .Wa=some false:=by simp [V.og,hu]
 have q3:∀ x r n,V.og par 33 (.sl x r n) .Wa=some false:=fun x r n=>by simp [V.og,hu]
 refine ⟨fun H=> ?_,fun H=> ?_,fun H x rows ty hx=> ?_,fun H x n rows ty hx h0 hn Af hb nc=> ?_⟩
 · unfold V.call;rw [wo,Lm];simp [Tryz.f47,vo,Er,V.code,iJ,V.ops,V.Sc,V.op,V.operand,V.val,V.put,V.get,V.be,V.fh,V.Hf,V.qe,V.results,V.result,V.binop,q1]
 · have ha:=LH H .Kd .Kd rfl rfl (fun s e=>by cases e);unfold V.call;rw [wo,Lm];simp [Tryz.f47,vo,Er,V.code,iJ,V.ops,V.Sc,V.op,V.operand,V.val,V.Pg,V.parts,V.put,V.get,V.be,V.fh,V.Hf,V.qe,V.results,V.result,V.binop,V.builtin,Om,V.xm,q2,ha]
 · have ha:=LH H .Kd (.sl x 0 0) rfl (by simp [V.rowsOf,hx]) (fun s e=>by cases e);unfold V.call;rw [wo,Lm];simp [Tryz.f47,vo,Er,V.code,iJ,V.ops,V.Sc,V.op,V.operand,V.val,V.Pg,V.parts,V.put,V.get,V.be,V.fh,V.Hf,V.qe,V.results,V.result,V.binop,V.builtin,Om,V.xm,q3,ha]
 · have ha:V.append par H #[33,33] .Kd (.sl x 0 n)=some (.sl H.bl.length 0 n,V.push H (.cells (rows.take n) 1 (some (e,1)))):=by
    have hl:(rows.take n).length=n:=by simp;omega
    have hr:V.rowsOf H (.sl x 0 n)=some (rows.take n):=by simp [V.rowsOf,hx,hn]
    simp only [V.append,Xb,ze,Ke,da,he,hz,rZ,Jy,ae,hu,hr,show V.rowsOf H .Kd=some [] from rfl,ek,de,hl];rw [if_pos ⟨hb,nc,by decide,trivial,Af⟩,if_neg (by omega)]
   refine ⟨some (e,1),?_⟩;unfold V.call;rw [wo,Lm];simp [Tryz.f47,vo,Er,V.code,iJ,V.ops,V.Sc,V.op,V.operand,V.val,V.Pg,V.parts,V.put,V.get,V.be,V.fh,V.Hf,V.qe,V.results,V.result,V.binop,V.builtin,Om,V.xm,q3,ha,width]
theorem XW:OK 1 47 kL:=fun k hk=>by
 obtain ⟨j,rfl⟩:∃ j,k=j+1:=⟨k-1,by omega⟩;refine Ys (A:=par) (k:=j) (f:=47) (Aai j) (fun cs vs H=>by unfold V.call;simp only [Qm]) fun X args H K out h=> ?_
 obtain ⟨u,hu,h⟩:=aa.1 (show (O6.sk.take args H).bind _=some out from h);obtain ⟨h1,h2⟩:=pz.sd hu;obtain ⟨⟨⟨⟩,⟨⟩⟩,⟨l,⟨⟩⟩⟩:=u;obtain ⟨k1,k2⟩:=Iw (n:=1) (l:=(l:List Bool)) (g:=fun r=>K (.all 1) ⟨[.cells .bool l,.cells .bool r],1⟩) h;exact ⟨l,h1.symm,h2.symm,k1,k2⟩
theorem zai (k:Nat):sr par (k+1) 48 (.pair .bool .bool) 2:=by
 have vo:par.loc 48=[]:=by kernel_rfl
 have Er:par.jS 48=false:=by kernel_rfl
 have wo:par.ext 48=none:=by kernel_rfl
 have Lm:par.fns 48=some Tryz.f48:=by kernel_rfl
 obtain ⟨e,z,he,hz,Jy,ae,rZ⟩:∃ e z,V.elem? par 34=some e/\V.zero par e=some z/\z.length=2/\V.size par e=some 2/\V.bytes par e=some 2:=⟨43,[.bool false,.bool false],by kernel_rfl,by kernel_rfl,rfl,by kernel_rfl,by kernel_rfl⟩;have hu:par.P.underlying 34=some (.slice e):=by
   have:=V.Ui he;exact this
 have iJ:∀ (call:V.Callee) (za:List Nat) (n:Nat) (os:Array Oper) (s:V.S),V.region par call za n os false s=V.ops par call za n os os.toList s:=fun _ _ _ _ _=>rfl
 have Om:∀ H:V.AH,V.buildSlice par H 34 0 []=some (.Kd,H):=fun H=>by
   simp [V.buildSlice,he,hz,Jy,ae]
 have LH:∀ (H:V.AH) (x y:V.AV),V.rowsOf H x=some []->V.rowsOf H y=some []->(∀ s,y≠ .str s)->V.append par H #[34,34] x y=some (x,H):=fun H x y h1 h2 h3=>by
   cases y<;>first|exact absurd rfl (h3 _)|simp [V.append,he,hz,rZ,Jy,ae,hu,h1,h2]
 have q1:V.og par 34 .Wa .Wa=some true:=by simp [V.og,hu]
 have q2:V.og par 34 .Kd .Wa=some false:=by simp [V.og,hu]
 have q3:∀ x r n,V.og par 34 (.sl x r n) .Wa=some false:=fun x r n=>by simp [V.og,hu]
 refine ⟨fun H=> ?_,fun H=> ?_,fun H x rows ty hx=> ?_,fun H x n rows ty hx h0 hn Af hb nc=> ?_⟩
 · unfold V.call;rw [wo,Lm];simp [Tryz.f48,vo,Er,V.code,iJ,V.ops,V.Sc,V.op,V.operand,V.val,V.put,V.get,V.be,V.fh,V.Hf,V.qe,V.results,V.result,V.binop,q1]
 · have ha:=LH H .Kd .Kd rfl rfl (fun s e=>by cases e);unfold V.call;rw [wo,Lm];simp [Tryz.f48,vo,Er,V.code,iJ,V.ops,V.Sc,V.op,V.operand,V.val,V.Pg,V.parts,V.put,V.get,V.be,V.fh,V.Hf,V.qe,V.results,V.result,V.binop,V.builtin,Om,V.xm,q2,ha]
 · have ha:=LH H .Kd (.sl x 0 0) rfl (by simp [V.rowsOf,hx]) (fun s e=>by cases e);unfold V.call;rw [wo,Lm];simp [Tryz.f48,vo,Er,V.code,iJ,V.ops,V.Sc,V.op,V.operand,V.val,V.Pg,V.parts,V.put,V.get,V.be,V.fh,V.Hf,V.qe,V.results,V.result,V.binop,V.builtin,Om,V.xm,q3,ha]
 · have ha:V.append par H #[34,34] .Kd (.sl x 0 n)=some (.sl H.bl.length 0 n,V.push H (.cells (rows.take n) 2 (some (e,1)))):=by
    have hl:(rows.take n).length=n:=by simp;omega
    have hr:V.rowsOf H (.sl x 0 n)=some (rows.take n):=by simp [V.rowsOf,hx,hn]
    simp only [V.append,Xb,ze,Ke,da,he,hz,rZ,Jy,ae,hu,hr,show V.rowsOf H .Kd=some [] from rfl,ek,de,hl];rw [if_pos ⟨hb,nc,by decide,trivial,Af⟩,if_neg (by omega)]
   refine ⟨some (e,1),?_⟩;unfold V.call;rw [wo,Lm];simp [Tryz.f48,vo,Er,V.code,iJ,V.ops,V.Sc,V.op,V.operand,V.val,V.Pg,V.parts,V.put,V.get,V.be,V.fh,V.Hf,V.qe,V.results,V.result,V.binop,V.builtin,Om,V.xm,q3,ha,width]
theorem WW:OK 1 48 jL:=fun k hk=>by
 obtain ⟨j,rfl⟩:∃ j,k=j+1:=⟨k-1,by omega⟩;refine Ys (A:=par) (k:=j) (f:=48) (zai j) (fun cs vs H=>by unfold V.call;simp only [Qm]) fun X args H K out h=> ?_
 obtain ⟨u,hu,h⟩:=aa.1 (show (N6.sk.take args H).bind _=some out from h);obtain ⟨h1,h2⟩:=pz.sd hu;obtain ⟨⟨⟨⟩,⟨⟩⟩,⟨l,⟨⟩⟩⟩:=u;obtain ⟨k1,k2⟩:=Iw (n:=2) (l:=(l:List (Bool×Bool))) (g:=fun r=>K (.all 1) ⟨[.cells (.pair .bool .bool) l,.cells (.pair .bool .bool) r],1⟩) h;exact ⟨l,h1.symm,h2.symm,k1,k2⟩
theorem yai (k:Nat):sr par (k+1) 49 ja 16:=by
 have vo:par.loc 49=[]:=by kernel_rfl
 have Er:par.jS 49=false:=by kernel_rfl
 have wo:par.ext 49=none:=by kernel_rfl
 have Lm:par.fns 49=some Tryz.f49:=by kernel_rfl
 obtain ⟨e,z,he,hz,Jy,ae,rZ⟩:∃ e z,V.elem? par 35=some e/\V.zero par e=some z/\z.length=2/\V.size par e=some 2/\V.bytes par e=some 16:=⟨59,[.int .i64 0,.int .i64 0],by kernel_rfl,by kernel_rfl,rfl,by kernel_rfl,by kernel_rfl⟩;have hu:par.P.underlying 35=some (.slice e):=by
   have:=V.Ui he;exact this
 have iJ:∀ (call:V.Callee) (za:List Nat) (n:Nat) (os:Array Oper) (s:V.S),V.region par call za n os false s=V.ops par call za n os os.toList s:=fun _ _ _ _ _=>rfl
 have Om:∀ H:V.AH,V.buildSlice par H 35 0 []=some (.Kd,H):=fun H=>by
   simp [V.buildSlice,he,hz,Jy,ae]
 have LH:∀ (H:V.AH) (x y:V.AV),V.rowsOf H x=some []->V.rowsOf H y=some []->(∀ s,y≠ .str s)->V.append par H #[35,35] x y=some (x,H):=fun H x y h1 h2 h3=>by
   cases y<;>first|exact absurd rfl (h3 _)|simp [V.append,he,hz,rZ,Jy,ae,hu,h1,h2]
 have q1:V.og par 35 .Wa .Wa=some true:=by simp [V.og,hu]
 have q2:V.og par 35 .Kd .Wa=some false:=by simp [V.og,hu]
 have q3:∀ x r n,V.og par 35 (.sl x r n) .Wa=some false:=fun x r n=>by simp [V.og,hu]
 refine ⟨fun H=> ?_,fun H=> ?_,fun H x rows ty hx=> ?_,fun H x n rows ty hx h0 hn Af hb nc=> ?_⟩
 · unfold V.call;rw [wo,Lm];simp [Tryz.f49,vo,Er,V.code,iJ,V.ops,V.Sc,V.op,V.operand,V.val,V.put,V.get,V.be,V.fh,V.Hf,V.qe,V.results,V.result,V.binop,q1]
 · have ha:=LH H .Kd .Kd rfl rfl (fun s e=>by cases e);unfold V.call;rw [wo,Lm];simp [Tryz.f49,vo,Er,V.code,iJ,V.ops,V.Sc,V.op,V.operand,V.val,V.Pg,V.parts,V.put,V.get,V.be,V.fh,V.Hf,V.qe,V.results,V.result,V.binop,V.builtin,Om,V.xm,q2,ha]
 · have ha:=LH H .Kd (.sl x 0 0) rfl (by simp [V.rowsOf,hx]) (fun s e=>by cases e);unfold V.call;rw [wo,Lm];simp [Tryz.f49,vo,Er,V.code,iJ,V.ops,V.Sc,V.op,V.operand,V.val,V.Pg,V.parts,V.put,V.get,V.be,V.fh,V.Hf,V.qe,V.results,V.result,V.binop,V.builtin,Om,V.xm,q3,ha]
 · have ha:V.append par H #[35,35] .Kd (.sl x 0 n)=some (.sl H.bl.length 0 n,V.push H (.cells (rows.take n) 2 (some (e,1)))):=by
    have hl:(rows.take n).length=n:=by simp;omega
    have hr:V.rowsOf H (.sl x 0 n)=some (rows.take n):=by simp [V.rowsOf,hx,hn]
    simp only [V.append,Xb,ze,Ke,da,he,hz,rZ,Jy,ae,hu,hr,show V.rowsOf H .Kd=some [] from rfl,ek,de,hl];rw [if_pos ⟨hb,nc,by decide,trivial,Af⟩,if_neg (by omega)]
   refine ⟨some (e,1),?_⟩;unfold V.call;rw [wo,Lm];simp [Tryz.f49,vo,Er,V.code,iJ,V.ops,V.Sc,V.op,V.operand,V.val,V.Pg,V.parts,V.put,V.get,V.be,V.fh,V.Hf,V.qe,V.results,V.result,V.binop,V.builtin,Om,V.xm,q3,ha,width]
theorem VW:OK 1 49 iL:=fun k hk=>by
 obtain ⟨j,rfl⟩:∃ j,k=j+1:=⟨k-1,by omega⟩;refine Ys (A:=par) (k:=j) (f:=49) (yai j) (fun cs vs H=>by unfold V.call;simp only [Qm]) fun X args H K out h=> ?_
 obtain ⟨u,hu,h⟩:=aa.1 (show (M6.sk.take args H).bind _=some out from h);obtain ⟨h1,h2⟩:=pz.sd hu;obtain ⟨⟨⟨⟩,⟨⟩⟩,⟨l,⟨⟩⟩⟩:=u;obtain ⟨k1,k2⟩:=Iw (n:=16) (l:=(l:List Ra)) (g:=fun r=>K (.all 1) ⟨[.cells ja l,.cells ja r],1⟩) h;exact ⟨l,h1.symm,h2.symm,k1,k2⟩
theorem P_:OK 1 46 YW:=fun k hk=>by
 obtain ⟨j,rfl⟩:∃ j,k=j+1:=⟨k-1,by omega⟩;refine FJ (A:=par) (k:=j) (f:=46) (Jk:=V.Qe) V.Iv rfl fun X args H K out h=> ?_
 obtain ⟨u,hu,h⟩:=aa.1 (show (P6.sk.take args H).bind _=some out from h);obtain ⟨h1,h2⟩:=pz.sd hu;obtain ⟨⟨⟨⟩,⟨⟩⟩,⟨l,⟨⟩⟩⟩:=u;have key:∀ l:List Int,(AI l).bind (fun r=>K (.Rc []) ⟨[.cells cI r],0⟩)=some out->l.length<4611686018427387904/\K (.Rc []) ⟨[.cells cI (Qe l)],0⟩=some out:=fun l h'=>by
  simp only [AI,ask] at h';by_cases e1:l.length<4611686018427387904<;>simp [e1] at h'
  exact ⟨e1,h'⟩
 obtain ⟨k1,k2⟩:=key l h;exact ⟨l,h1.symm,h2.symm,k1,k2⟩
theorem UW:OK 1 51 dL:=fun k hk=>by
 obtain ⟨j,rfl⟩:∃ j,k=j+1:=⟨k-1,by omega⟩;refine DJ (A:=par) (k:=j) (f:=51) (Jk:=V.Xg) V.EC rfl fun X args H K out h=> ?_
 obtain ⟨u,hu,h⟩:=aa.1 (show (K6.sk.take args H).bind _=some out from h);obtain ⟨h1,h2⟩:=pz.sd hu;obtain ⟨⟨⟨⟩,⟨⟨⟩,⟨⟩⟩⟩,⟨l,⟨⟩⟩⟩:=u;have key:∀ l:List Ra,(tD l).bind (fun r=>K (.Rc []) ⟨[.cells ja r],0⟩)=some out->l.length<4611686018427387904/\K (.Rc []) ⟨[.cells ja (Xg l)],0⟩=some out:=fun l h'=>by
  simp only [tD,ask] at h';by_cases e1:l.length<4611686018427387904<;>simp [e1] at h'
  exact ⟨e1,h'⟩
 obtain ⟨k1,k2⟩:=key l h;exact ⟨l,h1.symm,h2.symm,k1,k2⟩
theorem Q_:OK 1 45 ZW:=fun k hk=>by
 obtain ⟨j,rfl⟩:∃ j,k=j+1:=⟨k-1,by omega⟩;refine zY (A:=par) (k:=j) (f:=45) rfl fun X args H K out h=> ?_
 obtain ⟨u,hu,h⟩:=aa.1 (show (Q6.sk.take args H).bind _=some out from h);obtain ⟨h1,h2⟩:=pz.sd hu;obtain ⟨⟨⟨⟩,x,y,⟨⟩⟩,⟨l,⟨⟩⟩⟩:=u;have key:∀ (x y:Int) (l:List Int),(vD (x,y,l)).bind (fun r=>K (.all 1) ⟨[.dead,.cells cI r],0⟩)=some out->(0<=x/\x<=y/\y<=l.length)/\K (.all 1) ⟨[.dead,.cells cI (l.take x.toNat++l.drop y.toNat)],0⟩=some out:=fun x y l h'=>by
  simp only [vD,ask] at h';by_cases e1:0<=x<;>by_cases e2:x<=y<;>by_cases e3:y<=l.length<;>simp [e1,e2,e3] at h'
  exact ⟨⟨e1,e2,e3⟩,h'⟩
 obtain ⟨k1,k2⟩:=key x y l h;exact ⟨l,x,y,h1.symm,h2.symm,k1,k2⟩
end Go.U
section
set_option maxRecDepth 100000
namespace Go.U
open Go Go.Proofs
noncomputable section
variable {C:V.Callee}
def H6:FS (Int) (Bool) where
 sk:=⟨(.cons (.int .i64) .nil),[],0⟩
 a:=fun u=>u.1.1
 n:=fun a=>((a,()),())
 o:=fun Z a r K=>K (.bool r) ⟨[],0⟩
def zI {X:Type} (a:Int) (K:Bool->Option X):Option X:=
 cond (decide ((1:Int)<=a))
 (K (decide (a<=(3:Int))))
 (K false)
def Rr:=fun a=>zI a some
def I_:Spec:=H6.sp Rr
noncomputable def rae:Env:=⟨fun k=>[].contains k,Cb [],fun X k s K=>none⟩
theorem J_:OK (1) 58 (H6.sp Rr):=
 fO (d:=0) (env:=rae) (Aa cn) (fn:=Tryz.f58) (mc:=@zI) (by intros;simp only [Rr,zI,nn])
def G6:FS (Int) (Int) where
 sk:=⟨(.cons (.int .i64) .nil),[],0⟩
 a:=fun u=>u.1.1
 n:=fun a=>((a,()),())
 o:=fun Z a r K=>K (.int .i64 r) ⟨[],0⟩
def yI {X:Type} (a:Int) (K:Int->Option X):Option X:=
 cond (decide (a=(1:Int)))
 (K (-128))
 (cond (decide (a=(2:Int)))
 (K (-32768))
 (K (-2147483648)))
def fo:=fun a=>yI a some
def ZK:Spec:=G6.sp fo
noncomputable def qae:Env:=⟨fun k=>[].contains k,Cb [],fun X k s K=>none⟩
theorem aL:OK (1) 59 (G6.sp fo):=
 fO (d:=0) (env:=qae) (Aa cn) (fn:=Tryz.f59) (mc:=@yI) (by intros;simp only [fo,yI,nn])
def F6:FS (Int) (Int) where
 sk:=⟨(.cons (.int .i64) .nil),[],0⟩
 a:=fun u=>u.1.1
 n:=fun a=>((a,()),())
 o:=fun Z a r K=>K (.int .i64 r) ⟨[],0⟩
def xI {X:Type} (a:Int) (K:Int->Option X):Option X:=
 (fo a).bind fun r1=>
 K (Ga ((Ga ((0:Int)-r1))-(1:Int)))
def Cp:=fun a=>xI a some
def DW:Spec:=F6.sp Cp
noncomputable def pae:Env:=⟨fun k=>[].contains k,Cb [(59,ZK)],fun X k s K=>none⟩
theorem EW:OK (2) 60 (F6.sp Cp):=
 fO (d:=1) (env:=pae) (Aa (cc aL cn)) (fn:=Tryz.f60) (mc:=@xI) (by intros;simp only [Cp,xI,nn])
def v7:FS (Ba) (Bool) where
 sk:=⟨(.cons (.agg tc) .nil),[],0⟩
 a:=fun u=>(q8 u.1.1)
 n:=fun a=>(((w8 a),()),())
 o:=fun Z a r K=>K (.bool r) ⟨[],0⟩
def Lp:LD ((List Ra)×Int×Ba) (Int) ((Unit) ⊕ (Unit)) where
 sk:=⟨[(1,.loc 0 0),(52,.v (.lit ja)),(53,.v (.int .i64)),(54,.v (.int .i64))],[tc],[],0,0⟩
 p:=fun u=>(u.1.1,u.1.2.1,(q8 u.2.1.1))
 t:=fun u=>u.1.2.2.1
 n:=fun p t=>((p.1,(p.2.1,(t,()))),(((w8 p.2.2),()),()))
 st:=fun Y p t ki ke=>cond (decide (t<p.2.1))
  (ask (V.va t (fa p.1)) (cond (decide ((gx p.1 (ga t) Zb).2<(0:Int)))
  (ke (.inl ()))
  (cond (decide ((62:Int)<(gx p.1 (ga t) Zb).2))
  (ke (.inl ()))
  (cond (!(decide ((Int.tmod (gx p.1 (ga t) Zb).2 2)=(0:Int))))
  (ke (.inl ()))
  (ki ((Ga (t+(1:Int)))))))))
  (ke (.inr (())))
 o:=fun Z p e K=>Sum.elim (fun e=>K .ret ⟨[(2,.v (.bool false))],[],⟨[],0⟩,0⟩) (fun e=>K (.exit 0) ⟨[(1,.loc 0 0)],[[.lit zb p.2.2.1,.int .i64 p.t3.1,.int .i64 p.t4.1,.int .i64 p.t5.1,.lit Na p.t6.1,.lit yb p.t7.1,.lit Na p.t8.1,.lit ja p.t9]],⟨[],0⟩,0⟩) e
 Je:=⟨[1,52,53,54],[],[],[]⟩
 pe:=[(.ret,⟨[2],[],[],[]⟩),(.exit 0,⟨[1],[],[],[]⟩)]
def ql:LD ((List Tc)×Int×Ba) (Int) ((Unit) ⊕ (Unit)) where
 sk:=⟨[(1,.loc 0 0),(74,.v (.lit Na)),(75,.v (.int .i64)),(76,.v (.int .i64))],[tc],[],0,0⟩
 p:=fun u=>(u.1.1,u.1.2.1,(q8 u.2.1.1))
 t:=fun u=>u.1.2.2.1
 n:=fun p t=>((p.1,(p.2.1,(t,()))),(((w8 p.2.2),()),()))
 st:=fun Y p t ki ke=>cond (decide (t<p.2.1))
  (ask (V.va t (fa p.1)) ((Rr (gx p.1 (ga t) Bb).2.1).bind fun r1=>
  cond (!r1)
  (ke (.inl ()))
  (cond (decide ((gx p.1 (ga t) Bb).2.2.2<(gx p.1 (ga t) Bb).2.2.1))
  (ke (.inl ()))
  ((fo (gx p.1 (ga t) Bb).2.1).bind fun r2=>
  cond (decide ((gx p.1 (ga t) Bb).2.2.1<r2))
  (ke (.inl ()))
  ((Cp (gx p.1 (ga t) Bb).2.1).bind fun r3=>
  cond (decide (r3<(gx p.1 (ga t) Bb).2.2.2))
  (ke (.inl ()))
  (ki ((Ga (t+(1:Int))))))))))
  (ke (.inr (())))
 o:=fun Z p e K=>Sum.elim (fun e=>K .ret ⟨[(2,.v (.bool false))],[],⟨[],0⟩,0⟩) (fun e=>K (.exit 2) ⟨[(1,.loc 0 0)],[[.lit zb p.2.2.1,.int .i64 p.t3.1,.int .i64 p.t4.1,.int .i64 p.t5.1,.lit Na p.t6.1,.lit yb p.t7.1,.lit Na p.t8.1,.lit ja p.t9]],⟨[],0⟩,0⟩) e
 Je:=⟨[1,74,75,76],[],[],[]⟩
 pe:=[(.ret,⟨[2],[],[],[]⟩),(.exit 2,⟨[1],[],[],[]⟩)]
def gl:LD ((List Xd)×Int×Ba) (Int) ((Unit) ⊕ (Unit)) where
 sk:=⟨[(1,.loc 0 0),(109,.v (.lit yb)),(110,.v (.int .i64)),(111,.v (.int .i64))],[tc],[],0,0⟩
 p:=fun u=>(u.1.1,u.1.2.1,(q8 u.2.1.1))
 t:=fun u=>u.1.2.2.1
 n:=fun p t=>((p.1,(p.2.1,(t,()))),(((w8 p.2.2),()),()))
 st:=fun Y p t ki ke=>cond (decide (t<p.2.1))
  (ask (V.va t (fa p.1)) ((Rr (gx p.1 (ga t) Xc).2.1).bind fun r1=>
  cond (!r1)
  (ke (.inl ()))
  ((fo (gx p.1 (ga t) Xc).2.1).bind fun r2=>
  cond (decide ((gx p.1 (ga t) Xc).2.2<r2))
  (ke (.inl ()))
  ((Cp (gx p.1 (ga t) Xc).2.1).bind fun r3=>
  cond (decide (r3<(gx p.1 (ga t) Xc).2.2))
  (ke (.inl ()))
  (ki ((Ga (t+(1:Int)))))))))
  (ke (.inr (())))
 o:=fun Z p e K=>Sum.elim (fun e=>K .ret ⟨[(2,.v (.bool false))],[],⟨[],0⟩,0⟩) (fun e=>K (.exit 4) ⟨[(1,.loc 0 0)],[[.lit zb p.2.2.1,.int .i64 p.t3.1,.int .i64 p.t4.1,.int .i64 p.t5.1,.lit Na p.t6.1,.lit yb p.t7.1,.lit Na p.t8.1,.lit ja p.t9]],⟨[],0⟩,0⟩) e
 Je:=⟨[1,109,110,111],[],[],[]⟩
 pe:=[(.ret,⟨[2],[],[],[]⟩),(.exit 4,⟨[1],[],[],[]⟩)]
def fl:LD ((List Tc)×Int) (Int) ((Unit) ⊕ (Unit)) where
 sk:=⟨[(137,.v (.lit Na)),(138,.v (.int .i64)),(139,.v (.int .i64))],[],[],0,0⟩
 p:=fun u=>(u.1.1,u.1.2.1)
 t:=fun u=>u.1.2.2.1
 n:=fun p t=>((p.1,(p.2,(t,()))),((),()))
 st:=fun Y p t ki ke=>cond (decide (t<p.2))
  (ask (V.va t (fa p.1)) ((Rr (gx p.1 (ga t) Bb).2.1).bind fun r1=>
  cond (!r1)
  (ke (.inl ()))
  ((fo (gx p.1 (ga t) Bb).2.1).bind fun r2=>
  cond (decide ((gx p.1 (ga t) Bb).2.2.2<r2))
  (ke (.inl ()))
  ((Cp (gx p.1 (ga t) Bb).2.1).bind fun r3=>
  cond (decide (r3<(gx p.1 (ga t) Bb).2.2.2))
  (ke (.inl ()))
  (cond (decide ((gx p.1 (ga t) Bb).2.2.1<(1:Int)))
  (ke (.inl ()))
  (cond (decide ((256:Int)<(gx p.1 (ga t) Bb).2.2.1))
  (ke (.inl ()))
  (ki ((Ga (t+(1:Int)))))))))))
  (ke (.inr (())))
 o:=fun Z p e K=>Sum.elim (fun e=>K .ret ⟨[(2,.v (.bool false))],[],⟨[],0⟩,0⟩) (fun e=>K (.exit 6) ⟨[],[],⟨[],0⟩,0⟩) e
 Je:=⟨[137,138,139],[],[],[]⟩
 pe:=[(.ret,⟨[2],[],[],[]⟩),(.exit 6,⟨[],[],[],[]⟩)]
def UN {X:Type} (a:Ba) (K:Bool->Option X):Option X:=
 cond (decide ((32:Int)<(nt (fa a.2.2.2.2.1))))
 (K false)
 (cond (decide ((64:Int)<(nt (fa a.2.2.2.2.2.1))))
 (K false)
 (cond (decide ((16:Int)<(nt (fa a.2.2.2.2.2.2.1))))
 (K false)
 (cond (decide (a.2.2.2.1<(0:Int)))
 (K false)
 (cond (decide ((2147483647:Int)<a.2.2.2.1))
 (K false)
 (cond (decide ((nt (fa a.2.2.2.2.2.2.2))<(1:Int)))
 (K false)
 (ask (V.va 0 (fa a.2.2.2.2.2.2.2)) (cond (!((decide ((gx a.2.2.2.2.2.2.2 0 Zb).1=(0:Int)))&&((decide ((gx a.2.2.2.2.2.2.2 0 Zb).2=(0:Int)))&&true)))
 (K false)
 ((Oa (Lp.m (a.2.2.2.2.2.2.2,(nt (fa a.2.2.2.2.2.2.2)),a)) 0).bind fun e1=>
 Sum.elim (fun e2=>K false)
 (fun e3=>(Oa (ql.m (a.2.2.2.2.1,(nt (fa a.2.2.2.2.1)),a)) 0).bind fun e4=>
 Sum.elim (fun e5=>K false)
 (fun e6=>(Oa (gl.m (a.2.2.2.2.2.1,(nt (fa a.2.2.2.2.2.1)),a)) 0).bind fun e7=>
 Sum.elim (fun e8=>K false)
 (fun e9=>(Oa (fl.m (a.2.2.2.2.2.2.1,(nt (fa a.2.2.2.2.2.2.1)))) 0).bind fun aB=>
 Sum.elim (fun sO=>K false)
 (fun DR=>K true) aB) e7) e4) e1))))))))
def BD:=fun a=>UN a some
def raa:Spec:=v7.sp BD
noncomputable def Hu:Env:=⟨fun k=>[].contains k,Cb [(58,I_),(59,ZK),(60,DW)],fun X k s K=>if k=4 then Lp.q X s K else if k=10 then ql.q X s K else if k=16 then gl.q X s K else if k=22 then fl.q X s K else none⟩
noncomputable def DX:Code:=Lb [1,1,0,1,0,0] (vb Tryz.f27)
theorem YQ (hc:Sa C Hu.call):Va Hu.loop (vc par C true [1,4,6,8,10] 174) (.loop DX):=
 lO hc Lp (by intros;simp only [Lp,LD.m,nn])
noncomputable def bR:Code:=Lb [1,1,1,0,1,0,0] (vb Tryz.f27)
theorem vL (hc:Sa C Hu.call):Va Hu.loop (vc par C true [1,4,6,8,10] 174) (.loop bR):=
 lO hc ql (by intros;simp only [ql,LD.m,nn])
noncomputable def aR:Code:=Lb [1,1,1,1,0,1,0,0] (vb Tryz.f27)
theorem uL (hc:Sa C Hu.call):Va Hu.loop (vc par C true [1,4,6,8,10] 174) (.loop aR):=
 lO hc gl (by intros;simp only [gl,LD.m,nn])
noncomputable def ZQ:Code:=Lb [1,1,1,1,1,0,1,0,0] (vb Tryz.f27)
theorem tL (hc:Sa C Hu.call):Va Hu.loop (vc par C true [1,4,6,8,10] 174) (.loop ZQ):=
 lO hc fl (by intros;simp only [fl,LD.m,nn])
theorem saa:OK (3) 27 (v7.sp BD):=
 fO (d:=2) (env:=Hu) (Aa (cc J_ (cc aL (cc EW cn)))) (fn:=Tryz.f27) (mc:=@UN) (by intros;simp only [BD,UN,nn]) (za:=[1,4,6,8,10]) (hl:=fun hc=>(Yc (by kernel_rfl) (Db (YQ hc) (Db (vL hc) (Db (uL hc) (Db (tL hc) Bc))))))
def u7:FS (Ba) ((List Int)×Bool) where
 sk:=⟨(.cons (.agg tc) .nil),[],0⟩
 a:=fun u=>(q8 u.1.1)
 n:=fun a=>(((w8 a),()),())
 o:=fun Z a r K=>K (.Rc [.lit (.int .i64) r.1,.bool r.2]) ⟨[],0⟩
def Ss:LD ((List Fb)×Int×Ba) (Int×Int) (Int) where
 sk:=⟨[(1,.loc 0 0),(4,.v (.int .i64)),(13,.v (.lit zb)),(14,.v (.int .i64)),(15,.v (.int .i64))],[tc],[],0,0⟩
 p:=fun u=>(u.1.2.1,u.1.2.2.1,(q8 u.2.1.1))
 t:=fun u=>(u.1.1,u.1.t3.1)
 n:=fun p t=>((t.1,(p.1,(p.2.1,(t.2,())))),(((w8 p.2.2),()),()))
 st:=fun Y p t ki ke=>cond (decide (t.2<p.2.1))
  (ask (V.va t.2 (fa p.1)) (cond (decide ((1:Int)<=(gx p.1 (ga t.2) Ta).1))
  (cond (decide ((gx p.1 (ga t.2) Ta).1<=(12:Int)))
  (ki ((Ga (t.1+(1:Int))),(Ga (t.2+(1:Int)))))
  (ki (t.1,(Ga (t.2+(1:Int))))))
  (ki (t.1,(Ga (t.2+(1:Int)))))))
  (ke (t.1))
 o:=fun Z p e K=>K (.exit 0) ⟨[(1,.loc 0 0),(4,.v (.int .i64 e))],[[.lit zb p.2.2.1,.int .i64 p.t3.1,.int .i64 p.t4.1,.int .i64 p.t5.1,.lit Na p.t6.1,.lit yb p.t7.1,.lit Na p.t8.1,.lit ja p.t9]],⟨[],0⟩,0⟩
 Je:=⟨[1,4,13,14,15],[],[],[]⟩
 pe:=[(.exit 0,⟨[1,4],[],[],[]⟩)]
def Ln:LD (Int×Int×Ba) (Int×(List Int)) ((List Int)) where
 sk:=⟨[(1,.loc 0 0),(4,.v (.int .i64)),(7,.v (.all 0)),(41,.v (.int .i64)),(42,.v (.int .i64))],[tc],[.cells (.int .i64)],0,0⟩
 p:=fun u=>(u.1.1,u.1.2.2.1,(q8 u.2.1.1))
 t:=fun u=>(u.1.t3.1,u.2.2.1)
 n:=fun p t=>((p.1,((),(p.2.1,(t.1,())))),(((w8 p.2.2),()),(t.2,())))
 st:=fun Y p t ki ke=>cond (decide (t.1<p.2.1))
  (ask (V.va t.1 (fa t.2)) (ki ((Ga (t.1+(1:Int))),(Tb t.2 (ga t.1) (-1)))))
  (ke (t.2))
 o:=fun Z p e K=>K (.exit 2) ⟨[(1,.loc 0 0),(4,.v (.int .i64 p.1)),(7,.v (.all 0))],[[.lit zb p.2.2.1,.int .i64 p.t3.1,.int .i64 p.t4.1,.int .i64 p.t5.1,.lit Na p.t6.1,.lit yb p.t7.1,.lit Na p.t8.1,.lit ja p.t9]],⟨[.cells (.int .i64) e],0⟩,0⟩
 Je:=⟨[1,4,7,41,42],[],[],[]⟩
 pe:=[(.exit 2,⟨[1,4,7],[],[],[]⟩)]
def Kn:LD (Int×(List Fb)×Int×Ba) (Int×(List Int)) ((Unit) ⊕ ((List Int))) where
 sk:=⟨[(1,.loc 0 0),(4,.v (.int .i64)),(7,.v (.all 0)),(50,.v (.lit zb)),(51,.v (.int .i64)),(52,.v (.int .i64))],[tc],[.cells (.int .i64)],0,0⟩
 p:=fun u=>(u.1.1,u.1.2.2.1,u.1.t3.1,(q8 u.2.1.1))
 t:=fun u=>(u.1.t4.1,u.2.2.1)
 n:=fun p t=>((p.1,((),(p.2.1,(p.2.2.1,(t.1,()))))),(((w8 p.t3),()),(t.2,())))
 st:=fun Y p t ki ke=>cond (decide (t.1<p.2.2.1))
  (ask (V.va t.1 (fa p.2.1)) (cond (decide ((gx p.2.1 (ga t.1) Ta).1<(1:Int)))
  (ki ((Ga (t.1+(1:Int))),t.2))
  (cond (decide ((12:Int)<(gx p.2.1 (ga t.1) Ta).1))
  (ki ((Ga (t.1+(1:Int))),t.2))
  (cond (decide ((Ga ((gx p.2.1 (ga t.1) Ta).2.1-(nt (fa p.2.2.2.2.2.2.2.2.1))))<(0:Int)))
  (ke (.inl ()))
  (cond (decide (p.1<=(Ga ((gx p.2.1 (ga t.1) Ta).2.1-(nt (fa p.2.2.2.2.2.2.2.2.1))))))
  (ke (.inl ()))
  (ask (V.va (Ga ((gx p.2.1 (ga t.1) Ta).2.1-(nt (fa p.2.2.2.2.2.2.2.2.1)))) (fa t.2)) (cond (decide ((0:Int)<=(gx t.2 (ga (Ga ((gx p.2.1 (ga t.1) Ta).2.1-(nt (fa p.2.2.2.2.2.2.2.2.1))))) (0:Int))))
  (ke (.inl ()))
  (ask (V.va (Ga ((gx p.2.1 (ga t.1) Ta).2.1-(nt (fa p.2.2.2.2.2.2.2.2.1)))) (fa t.2)) (ki ((Ga (t.1+(1:Int))),(Tb t.2 (ga (Ga ((gx p.2.1 (ga t.1) Ta).2.1-(nt (fa p.2.2.2.2.2.2.2.2.1))))) t.1)))))))))))
  (ke (.inr (t.2)))
 o:=fun Z p e K=>Sum.elim (fun e=>K .ret ⟨[(2,.v (.Wa)),(3,.v (.bool false))],[],⟨[],0⟩,0⟩) (fun e=>K (.exit 4) ⟨[(7,.v (.all 0))],[],⟨[.cells (.int .i64) e],0⟩,0⟩) e
 Je:=⟨[1,4,7,50,51,52],[],[],[]⟩
 pe:=[(.ret,⟨[2,3],[],[],[]⟩),(.exit 4,⟨[7],[],[],[]⟩)]
def TN {X:Type} (a:Ba) (K:(List Int)×Bool->Option X):Option X:=
 (Oa (Ss.m (a.1,(nt (fa a.1)),a)) (0,0)).bind fun e1=>
 cond (!(decide (a.2.2.1=(Ga ((nt (fa a.2.2.2.2.2.1))+e1)))))
 (K ([],false))
 (ask (decide (0<=e1)&&decide (e1<=e1)&&decide (8 * e1<=70368744177664)&&decide (e1<9223372036854775808)) ((Oa (Ln.m (e1,(nt (fa (Ja (ga e1) (0:Int)))),a)) (0,(Ja (ga e1) (0:Int)))).bind fun e2=>
 (Oa (Kn.m (e1,a.1,(nt (fa a.1)),a)) (0,e2)).bind fun e3=>
 Sum.elim (fun e4=>K ([],false))
 (fun e5=>K (e5,true)) e3))
def AD:=fun a=>TN a some
def oaa:Spec:=u7.sp AD
noncomputable def LA:Env:=⟨fun k=>[].contains k,Cb [],fun X k s K=>if k=3 then Ss.q X s K else if k=12 then Ln.q X s K else if k=17 then Kn.q X s K else none⟩
noncomputable def CX:Code:=Lb [1,1,0,1,0,0] (vb Tryz.f28)
theorem SQ (hc:Sa C LA.call):Va LA.loop (vc par C true [1,6,10] 91) (.loop CX):=
 lO hc Ss (by intros;simp only [Ss,LD.m,nn])
noncomputable def UQ:Code:=Lb [1,1,1,1,1,0,1,0,0] (vb Tryz.f28)
theorem rL (hc:Sa C LA.call):Va LA.loop (vc par C true [1,6,10] 91) (.loop UQ):=
 lO hc Ln (by intros;simp only [Ln,LD.m,nn])
noncomputable def TQ:Code:=Lb [1,1,1,1,1,1,0,1,0,0] (vb Tryz.f28)
theorem qL (hc:Sa C LA.call):Va LA.loop (vc par C true [1,6,10] 91) (.loop TQ):=
 lO hc Kn (by intros;simp only [Kn,LD.m,nn])
theorem paa:OK (1) 28 (u7.sp AD):=
 fO (d:=0) (env:=LA) (Aa cn) (fn:=Tryz.f28) (mc:=@TN) (by intros;simp only [AD,TN,nn]) (za:=[1,6,10]) (sh:=(.Rc [(.lit (.int .i64)),.any])) (fz:=true) (hl:=fun hc=>(Yc (by kernel_rfl) (Db (SQ hc) (Db (rL hc) (Db (qL hc) Bc)))))
def s7:FS (Fb) (Bool) where
 sk:=⟨(.cons (.agg Wc) .nil),[],0⟩
 a:=fun u=>(q8 u.1.1)
 n:=fun a=>(((w8 a),()),())
 o:=fun Z a r K=>K (.bool r) ⟨[],0⟩
def Cw:PD (Fb) (Bool) where
 sk:=⟨[(1,.loc 0 0)],[Wc],[],0,0⟩
 p:=fun u=>(q8 u.2.1.1)
 n:=fun p=>((),(((w8 p),()),()))
 st:=fun Y p ke=>cond (decide (p.1=(1:Int)))
  (ke (true))
  (cond (decide (p.1=(16:Int)))
  (ke (true))
  (ke ((decide ((17:Int)<=p.1)))))
 o:=fun Z p e K=>K .normal ⟨[(1,.loc 0 0),(3,.v (.bool e))],[[.int .i64 p.1,.int .i64 p.2.1,.int .i64 p.2.2.1,.int .i64 p.t3.1,.int .i64 p.t4.1,.int .i64 p.t5.1,.int .i64 p.t6.1,.int .i64 p.t7]],⟨[],0⟩,0⟩
 Je:=⟨[1],[],[],[]⟩
 pe:=[(.normal,⟨[1,3],[],[],[]⟩)]
def Jp:PD (Bool×Fb) (Bool) where
 sk:=⟨[(1,.loc 0 0),(3,.v .bool)],[Wc],[],0,0⟩
 p:=fun u=>(u.1.1,(q8 u.2.1.1))
 n:=fun p=>((p.1,()),(((w8 p.2),()),()))
 st:=fun Y p ke=>cond p.1
  (ke (true))
  (cond (decide (p.2.1=(2:Int)))
  (ke (true))
  (cond (decide (p.2.1=(3:Int)))
  (ke (true))
  (cond (decide (p.2.1=(12:Int)))
  (ke (true))
  (ke ((decide (p.2.1=(13:Int))))))))
 o:=fun Z p e K=>K .normal ⟨[(1,.loc 0 0),(3,.v (.bool p.1)),(4,.v (.bool e))],[[.int .i64 p.2.1,.int .i64 p.2.2.1,.int .i64 p.t3.1,.int .i64 p.t4.1,.int .i64 p.t5.1,.int .i64 p.t6.1,.int .i64 p.t7.1,.int .i64 p.t8]],⟨[],0⟩,0⟩
 Je:=⟨[1,3],[],[],[]⟩
 pe:=[(.normal,⟨[1,3,4],[],[],[]⟩)]
def Bw:PD (Bool×Bool×Fb) (Bool) where
 sk:=⟨[(1,.loc 0 0),(3,.v .bool),(4,.v .bool)],[Wc],[],0,0⟩
 p:=fun u=>(u.1.1,u.1.2.1,(q8 u.2.1.1))
 n:=fun p=>((p.1,(p.2.1,())),(((w8 p.2.2),()),()))
 st:=fun Y p ke=>cond (decide (p.2.2.1=(15:Int)))
  (ke (true))
  (cond (decide (p.2.2.1=(16:Int)))
  (ke (true))
  (ke ((decide ((17:Int)<=p.2.2.1)))))
 o:=fun Z p e K=>K .normal ⟨[(1,.loc 0 0),(3,.v (.bool p.1)),(4,.v (.bool p.2.1)),(5,.v (.bool e))],[[.int .i64 p.2.2.1,.int .i64 p.t3.1,.int .i64 p.t4.1,.int .i64 p.t5.1,.int .i64 p.t6.1,.int .i64 p.t7.1,.int .i64 p.t8.1,.int .i64 p.t9]],⟨[],0⟩,0⟩
 Je:=⟨[1,3,4],[],[],[]⟩
 pe:=[(.normal,⟨[1,3,4,5],[],[],[]⟩)]
def Aw:PD (Bool×Bool×Bool×Fb) (Bool) where
 sk:=⟨[(1,.loc 0 0),(3,.v .bool),(4,.v .bool),(5,.v .bool)],[Wc],[],0,0⟩
 p:=fun u=>(u.1.1,u.1.2.1,u.1.2.2.1,(q8 u.2.1.1))
 n:=fun p=>((p.1,(p.2.1,(p.2.2.1,()))),(((w8 p.t3),()),()))
 st:=fun Y p ke=>cond (!(decide (p.2.2.2.1=(1:Int))))
  (ke ((!(decide (p.2.2.2.1=(15:Int))))))
  (ke (false))
 o:=fun Z p e K=>K .normal ⟨[(1,.loc 0 0),(3,.v (.bool p.1)),(4,.v (.bool p.2.1)),(5,.v (.bool p.2.2.1)),(6,.v (.bool e))],[[.int .i64 p.t3.1,.int .i64 p.t4.1,.int .i64 p.t5.1,.int .i64 p.t6.1,.int .i64 p.t7.1,.int .i64 p.t8.1,.int .i64 p.t9.1,.int .i64 p.t10]],⟨[],0⟩,0⟩
 Je:=⟨[1,3,4,5],[],[],[]⟩
 pe:=[(.normal,⟨[1,3,4,5,6],[],[],[]⟩)]
def Ip:PD (Bool×Bool×Bool×Bool×Fb) (Bool) where
 sk:=⟨[(1,.loc 0 0),(3,.v .bool),(4,.v .bool),(5,.v .bool),(6,.v .bool)],[Wc],[],0,0⟩
 p:=fun u=>(u.1.1,u.1.2.1,u.1.2.2.1,u.1.t3.1,(q8 u.2.1.1))
 n:=fun p=>((p.1,(p.2.1,(p.2.2.1,(p.t3.1,())))),(((w8 p.t4),()),()))
 st:=fun Y p ke=>cond (!p.1)
  (cond (!p.2.1)
  (cond (!p.2.2.1)
  (cond (!p.2.2.2.1)
  (ke (true))
  (ke ((decide (p.2.2.2.2.2.2.2.2.1=(0:Int))))))
  (cond (decide (p.2.2.2.2.2.1=(0:Int)))
  (cond (!p.2.2.2.1)
  (ke (true))
  (ke ((decide (p.2.2.2.2.2.2.2.2.1=(0:Int))))))
  (ke (false))))
  (cond (decide (p.2.2.2.2.2.2.2.1=(0:Int)))
  (cond (!p.2.2.1)
  (cond (!p.2.2.2.1)
  (ke (true))
  (ke ((decide (p.2.2.2.2.2.2.2.2.1=(0:Int))))))
  (cond (decide (p.2.2.2.2.2.1=(0:Int)))
  (cond (!p.2.2.2.1)
  (ke (true))
  (ke ((decide (p.2.2.2.2.2.2.2.2.1=(0:Int))))))
  (ke (false))))
  (ke (false))))
  (cond (decide (p.2.2.2.2.2.2.1=(0:Int)))
  (cond (!p.2.1)
  (cond (!p.2.2.1)
  (cond (!p.2.2.2.1)
  (ke (true))
  (ke ((decide (p.2.2.2.2.2.2.2.2.1=(0:Int))))))
  (cond (decide (p.2.2.2.2.2.1=(0:Int)))
  (cond (!p.2.2.2.1)
  (ke (true))
  (ke ((decide (p.2.2.2.2.2.2.2.2.1=(0:Int))))))
  (ke (false))))
  (cond (decide (p.2.2.2.2.2.2.2.1=(0:Int)))
  (cond (!p.2.2.1)
  (cond (!p.2.2.2.1)
  (ke (true))
  (ke ((decide (p.2.2.2.2.2.2.2.2.1=(0:Int))))))
  (cond (decide (p.2.2.2.2.2.1=(0:Int)))
  (cond (!p.2.2.2.1)
  (ke (true))
  (ke ((decide (p.2.2.2.2.2.2.2.2.1=(0:Int))))))
  (ke (false))))
  (ke (false))))
  (ke (false)))
 o:=fun Z p e K=>K .normal ⟨[(2,.v (.bool e))],[],⟨[],0⟩,0⟩
 Je:=⟨[1,3,4,5,6],[],[],[]⟩
 pe:=[(.normal,⟨[2],[],[],[]⟩)]
def SN {X:Type} (a:Fb) (K:Bool->Option X):Option X:=
 (Cw.m a).bind fun e1=>
 (Jp.m (e1,a)).bind fun e2=>
 (Bw.m (e1,e2,a)).bind fun e3=>
 (Aw.m (e1,e2,e3,a)).bind fun e4=>
 (Ip.m (e1,e2,e3,e4,a)).bind fun e5=>
 K e5
def KA:=fun a=>SN a some
def laa:Spec:=s7.sp KA
noncomputable def Tf:Env:=⟨fun k=>[2000001,2000002,2000003,2000004,2000005].contains k,Cb [],fun X k s K=>if k=2000001 then Cw.q X s K else if k=2000002 then Jp.q X s K else if k=2000003 then Bw.q X s K else if k=2000004 then Aw.q X s K else if k=2000005 then Ip.q X s K else none⟩
noncomputable def AX:Code:=Lb [1,0] (vb Tryz.f29)
theorem NQ (hc:Sa C Tf.call):Va Tf.loop (vc par C true [1] 96) AX:=
 pO (Lg:=⟨Zz Tf.join 2000001,Tf.call,Tf.loop⟩) hc rfl Cw (by intros;simp only [Cw,PD.m,nn])
noncomputable def zX:Code:=Lb [1,1,0] (vb Tryz.f29)
theorem MQ (hc:Sa C Tf.call):Va Tf.loop (vc par C true [1] 96) zX:=
 pO (Lg:=⟨Zz Tf.join 2000002,Tf.call,Tf.loop⟩) hc rfl Jp (by intros;simp only [Jp,PD.m,nn])
noncomputable def yX:Code:=Lb [1,1,1,0] (vb Tryz.f29)
theorem LQ (hc:Sa C Tf.call):Va Tf.loop (vc par C true [1] 96) yX:=
 pO (Lg:=⟨Zz Tf.join 2000003,Tf.call,Tf.loop⟩) hc rfl Bw (by intros;simp only [Bw,PD.m,nn])
noncomputable def xX:Code:=Lb [1,1,1,1,0] (vb Tryz.f29)
theorem KQ (hc:Sa C Tf.call):Va Tf.loop (vc par C true [1] 96) xX:=
 pO (Lg:=⟨Zz Tf.join 2000004,Tf.call,Tf.loop⟩) hc rfl Aw (by intros;simp only [Aw,PD.m,nn])
noncomputable def wX:Code:=Lb [1,1,1,1,1,0] (vb Tryz.f29)
theorem JQ (hc:Sa C Tf.call):Va Tf.loop (vc par C true [1] 96) wX:=
 pO (Lg:=⟨Zz Tf.join 2000005,Tf.call,Tf.loop⟩) hc rfl Ip (by intros;simp only [Ip,PD.m,nn])
theorem maa:OK (1) 29 (s7.sp KA):=
 fO (d:=0) (env:=Tf) (Aa cn) (fn:=Tryz.f29) (mc:=@SN) (by intros;simp only [KA,SN,nn]) (za:=[1]) (hl:=fun hc=>(Yc (by kernel_rfl) (Db (NQ hc) (Db (MQ hc) (Db (LQ hc) (Db (KQ hc) (Db (JQ hc) Bc)))))))
def E6:FS (Int×Int) (Bool) where
 sk:=⟨Qi,[],0⟩
 a:=fun u=>(u.1.1,u.1.2.1)
 n:=fun a=>((a.1,(a.2,())),())
 o:=fun Z a r K=>K (.bool r) ⟨[],0⟩
def zN {X:Type} (a:Int×Int) (K:Bool->Option X):Option X:=
 cond (decide ((0:Int)<=a.1))
 (K (decide (a.1<a.2)))
 (K false)
def Jx:=fun a=>zN a some
def F_:Spec:=E6.sp Jx
noncomputable def oae:Env:=⟨fun k=>[].contains k,Cb [],fun X k s K=>none⟩
theorem G_:OK (1) 61 (E6.sp Jx):=
 fO (d:=0) (env:=oae) (Aa cn) (fn:=Tryz.f61) (mc:=@zN) (by intros;simp only [Jx,zN,nn])
def p7:FS (Fb×Int) (Bool) where
 sk:=⟨(.cons (.agg Wc) (.cons (.int .i64) .nil)),[],0⟩
 a:=fun u=>((q8 u.1.1),u.1.2.1)
 n:=fun a=>(((w8 a.1),(a.2,())),())
 o:=fun Z a r K=>K (.bool r) ⟨[],0⟩
def RN {X:Type} (a:Fb×Int) (K:Bool->Option X):Option X:=
 cond (decide (a.1.1=(15:Int)))
 ((Jx (a.1.2.2.2.2.2.2.1,a.2)).bind fun r1=>
 cond r1
 ((Jx (a.1.2.2.2.2.2.2.2,a.2)).bind fun r2=>
 K r2)
 (K false))
 (cond (decide (a.1.1=(21:Int)))
 (cond (decide (a.1.2.2.2.2.2.2.1=(-1:Int)))
 (K (decide (a.1.2.2.2.2.2.2.2=(-1:Int))))
 (K false))
 ((Jx (a.1.2.2.2.2.2.2.1,a.2)).bind fun r3=>
 cond r3
 (K (decide (a.1.2.2.2.2.2.2.2=(-1:Int))))
 (K false)))
def JA:=fun a=>RN a some
def iaa:Spec:=p7.sp JA
noncomputable def Bae:Env:=⟨fun k=>[].contains k,Cb [(61,F_)],fun X k s K=>none⟩
theorem jaa:OK (2) 30 (p7.sp JA):=
 fO (d:=1) (env:=Bae) (Aa (cc G_ cn)) (fn:=Tryz.f30) (mc:=@RN) (by intros;simp only [JA,RN,nn]) (za:=[2])
def o7:FS (Fb) ((List Int)) where
 sk:=⟨(.cons (.agg Wc) .nil),[],0⟩
 a:=fun u=>(q8 u.1.1)
 n:=fun a=>(((w8 a),()),())
 o:=fun Z a r K=>K (.lit (.int .i64) r) ⟨[],0⟩
def QN {X:Type} (a:Fb) (K:(List Int)->Option X):Option X:=
 cond (decide (a.1=(2:Int)))
 (K ([a.2.2.1]:List Int))
 (cond (decide (a.1=(3:Int)))
 (K ([a.2.2.1]:List Int))
 (cond (decide (a.1=(13:Int)))
 (K ([a.2.2.1]:List Int))
 (cond (decide (a.1=(4:Int)))
 (K ([a.2.2.1,a.2.2.2.1]:List Int))
 (cond (decide (a.1=(5:Int)))
 (K ([a.2.2.1,a.2.2.2.1]:List Int))
 (cond (decide (a.1=(6:Int)))
 (K ([a.2.2.1,a.2.2.2.1]:List Int))
 (cond (decide (a.1=(7:Int)))
 (K ([a.2.2.1,a.2.2.2.1]:List Int))
 (cond (decide (a.1=(8:Int)))
 (K ([a.2.2.1,a.2.2.2.1]:List Int))
 (cond (decide (a.1=(9:Int)))
 (K ([a.2.2.1,a.2.2.2.1]:List Int))
 (cond (decide (a.1=(10:Int)))
 (K ([a.2.2.1,a.2.2.2.1]:List Int))
 (cond (decide (a.1=(15:Int)))
 (K ([a.2.2.1,a.2.2.2.1]:List Int))
 (cond (decide (a.1=(11:Int)))
 (K ([a.2.2.2.1]:List Int))
 (cond (decide (a.1=(14:Int)))
 (K ([a.2.1,a.2.2.2.1]:List Int))
 (K [])))))))))))))
def xD:=fun a=>QN a some
def faa:Spec:=o7.sp xD
noncomputable def Aae:Env:=⟨fun k=>[].contains k,Cb [],fun X k s K=>none⟩
theorem gaa:OK (1) 31 (o7.sp xD):=
 fO (d:=0) (env:=Aae) (Aa cn) (fn:=Tryz.f31) (mc:=@QN) (by intros;simp only [xD,QN,nn]) (za:=[1]) (sh:=(.lit (.int .i64))) (fz:=true)
def D6:FS (Y0) (Int×Bool) where
 sk:=⟨(.cons (.agg tc) (.cons (.lit (.int .i64)) (.cons (.agg Wc) .nil))),[],0⟩
 a:=fun u=>((q8 u.1.1),u.1.2.1,(q8 u.1.2.2.1))
 n:=fun a=>(((w8 a.1),(a.2.1,((w8 a.2.2),()))),())
 o:=fun Z a r K=>K (.Rc [.int .i64 r.1,.bool r.2]) ⟨[],0⟩
def yN {X:Type} (a:Y0) (K:(Int×Bool)->Option X):Option X:=
 cond (decide (a.2.2.1=(2:Int)))
 (K (2,true))
 (cond (decide (a.2.2.1=(3:Int)))
 (K (2,true))
 (cond (decide (a.2.2.1=(4:Int)))
 (K (2,true))
 (cond (decide (a.2.2.1=(5:Int)))
 (K (2,true))
 (cond (decide (a.2.2.1=(6:Int)))
 (K (2,true))
 (cond (decide (a.2.2.1=(7:Int)))
 (K (12,true))
 (cond (decide (a.2.2.1=(8:Int)))
 (K (4,true))
 (cond (decide (a.2.2.1=(11:Int)))
 (K (16,true))
 (cond (decide (a.2.2.1=(14:Int)))
 (ask (V.va a.2.2.2.2.1 (fa a.1.2.2.2.2.2.2.1)) (cond (decide ((gx a.1.2.2.2.2.2.2.1 (ga a.2.2.2.2.1) Bb).2.1=(3:Int)))
 (K (16,true))
 (K (18,true))))
 (cond (decide (a.2.2.1=(21:Int)))
 (K (32,true))
 (cond (decide (a.2.2.1=(13:Int)))
 (ask (V.va a.2.2.2.1 (fa a.1.2.2.2.2.2.1)) (cond (decide ((nt (fa a.1.2.2.2.2.2.1))<=a.2.2.2.2.1))
 (ask (V.va (Ga (a.2.2.2.2.1-(nt (fa a.1.2.2.2.2.2.1)))) (fa a.2.1)) (ask (V.va (gx a.2.1 (ga (Ga (a.2.2.2.2.1-(nt (fa a.1.2.2.2.2.2.1))))) (0:Int)) (fa a.1.1)) (cond (decide ((gx a.1.1 (ga (gx a.2.1 (ga (Ga (a.2.2.2.2.1-(nt (fa a.1.2.2.2.2.2.1))))) (0:Int))) Ta).1=(12:Int)))
 (ask (V.va (gx a.1.1 (ga (gx a.2.1 (ga (Ga (a.2.2.2.2.1-(nt (fa a.1.2.2.2.2.2.1))))) (0:Int))) Ta).2.2.1 (fa a.1.2.2.2.2.1)) ((fo (gx a.1.2.2.2.2.2.1 (ga a.2.2.2.1) Xc).2.1).bind fun r1=>
 cond (decide (r1<=(gx a.1.2.2.2.2.1 (ga (gx a.1.1 (ga (gx a.2.1 (ga (Ga (a.2.2.2.2.1-(nt (fa a.1.2.2.2.2.2.1))))) (0:Int))) Ta).2.2.1) Bb).2.2.1))
 (ask (V.va (gx a.1.1 (ga (gx a.2.1 (ga (Ga (a.2.2.2.2.1-(nt (fa a.1.2.2.2.2.2.1))))) (0:Int))) Ta).2.2.1 (fa a.1.2.2.2.2.1)) ((Cp (gx a.1.2.2.2.2.2.1 (ga a.2.2.2.1) Xc).2.1).bind fun r2=>
 cond (decide ((gx a.1.2.2.2.2.1 (ga (gx a.1.1 (ga (gx a.2.1 (ga (Ga (a.2.2.2.2.1-(nt (fa a.1.2.2.2.2.2.1))))) (0:Int))) Ta).2.2.1) Bb).2.2.2<=r2))
 (K (2,false))
 (K (2,(!(decide ((gx a.1.2.2.2.2.2.1 (ga a.2.2.2.1) Xc).2.1=(3:Int))))))))
 (K (2,(!(decide ((gx a.1.2.2.2.2.2.1 (ga a.2.2.2.1) Xc).2.1=(3:Int))))))))
 (K (2,(!(decide ((gx a.1.2.2.2.2.2.1 (ga a.2.2.2.1) Xc).2.1=(3:Int)))))))))
 (K (2,(!(decide ((gx a.1.2.2.2.2.2.1 (ga a.2.2.2.1) Xc).2.1=(3:Int))))))))
 (K (0,false))))))))))))
def rD:=fun a=>yN a some
def D_:Spec:=D6.sp rD
noncomputable def nae:Env:=⟨fun k=>[].contains k,Cb [(59,ZK),(60,DW)],fun X k s K=>none⟩
theorem E_:OK (3) 62 (D6.sp rD):=
 fO (d:=2) (env:=nae) (Aa (cc aL (cc EW cn))) (fn:=Tryz.f62) (mc:=@yN) (by intros;simp only [rD,yN,nn]) (za:=[3,5,10])
def l7:FS (Y0) (Bool) where
 sk:=⟨(.cons (.agg tc) (.cons (.lit (.int .i64)) (.cons (.agg Wc) .nil))),[],0⟩
 a:=fun u=>((q8 u.1.1),u.1.2.1,(q8 u.1.2.2.1))
 n:=fun a=>(((w8 a.1),(a.2.1,((w8 a.2.2),()))),())
 o:=fun Z a r K=>K (.bool r) ⟨[],0⟩
def PN {X:Type} (a:Y0) (K:Bool->Option X):Option X:=
 (rD (a.1,a.2.1,a.2.2)).bind fun r1=>
 cond (decide (a.2.2.2.2.2.2.2.1=(0:Int)))
 (K (!r1.2))
 (cond (!(decide (r1.1=(0:Int))))
 (cond (decide ((0:Int)<a.2.2.2.2.2.2.2.1))
 (cond (decide (a.2.2.2.2.2.2.2.1<(nt (fa a.1.2.2.2.2.2.2.2))))
 (ask (V.va a.2.2.2.2.2.2.2.1 (fa a.1.2.2.2.2.2.2.2)) (K (decide ((NY .i64 (gx a.1.2.2.2.2.2.2.2 (ga a.2.2.2.2.2.2.2.1) Zb).2 r1.1)=r1.1))))
 (K false))
 (K false))
 (K false))
def Gu:=fun a=>PN a some
def daa:Spec:=l7.sp Gu
noncomputable def zae:Env:=⟨fun k=>[].contains k,Cb [(62,D_)],fun X k s K=>none⟩
theorem eaa:OK (4) 32 (l7.sp Gu):=
 fO (d:=3) (env:=zae) (Aa (cc E_ cn)) (fn:=Tryz.f32) (mc:=@PN) (by intros;simp only [Gu,PN,nn]) (za:=[3,5])
def j7:FS (Ba) (Bool) where
 sk:=⟨(.cons (.agg tc) .nil),[],0⟩
 a:=fun u=>(q8 u.1.1)
 n:=fun a=>(((w8 a),()),())
 o:=fun Z a r K=>K (.bool r) ⟨[],0⟩
def Jn:LD (Bool×Int×Ra×Ba×(List Bool)) (Bool×Int) (Bool) where
 sk:=⟨[(1,.loc 0 0),(3,.v (.all 0)),(4,.v .bool),(5,.v (.int .i64)),(6,.v .bool),(49,.v (.agg Qi)),(50,.v (.int .i64))],[tc],[.cells .bool],0,0⟩
 p:=fun u=>(u.1.2.1,u.1.2.2.1,(u.1.t4.1.1,u.1.t4.1.2.1),(q8 u.2.1.1),u.2.2.1)
 t:=fun u=>(u.1.t3.1,u.1.t5.1)
 n:=fun p t=>(((),(p.1,(p.2.1,(t.1,((p.2.2.1.1,(p.2.2.1.2,())),(t.2,())))))),(((w8 p.t3.1),()),(p.t4,())))
 st:=fun Y p t ki ke=>cond (decide (t.2<(2:Int)))
  (cond (decide (t.2=(0:Int)))
  (cond t.1
  (cond (decide (p.2.2.1.1<(0:Int)))
  (ki (true,(Ga (t.2+(1:Int)))))
  (ask (V.va p.2.2.1.1 (fa p.2.2.2.2)) (ki ((gx p.2.2.2.2 (ga p.2.2.1.1) false),(Ga (t.2+(1:Int)))))))
  (ki (false,(Ga (t.2+(1:Int))))))
  (cond (decide (t.2=(1:Int)))
  (cond t.1
  (cond (decide (p.2.2.1.2<(0:Int)))
  (ki (true,(Ga (t.2+(1:Int)))))
  (ask (V.va p.2.2.1.2 (fa p.2.2.2.2)) (ki ((gx p.2.2.2.2 (ga p.2.2.1.2) false),(Ga (t.2+(1:Int)))))))
  (ki (false,(Ga (t.2+(1:Int))))))
  (none)))
  (ke (t.1))
 o:=fun Z p e K=>K (.exit 4) ⟨[(1,.loc 0 0),(3,.v (.all 0)),(4,.v (.bool p.1)),(5,.v (.int .i64 p.2.1)),(6,.v (.bool e))],[[.lit zb p.t3.1.1,.int .i64 p.t3.1.2.1,.int .i64 p.t3.1.2.2.1,.int .i64 p.t3.1.t3.1,.lit Na p.t3.1.t4.1,.lit yb p.t3.1.t5.1,.lit Na p.t3.1.t6.1,.lit ja p.t3.1.t7]],⟨[.cells .bool p.t4],0⟩,0⟩
 Je:=⟨[1,3,4,5,6,49,50],[],[],[]⟩
 pe:=[(.exit 4,⟨[1,3,4,5,6],[],[],[]⟩)]
def Hp:LD (Ba) (Bool×Int×(List Bool)) (Bool×(List Bool)) where
 sk:=⟨[(1,.loc 0 0),(3,.v (.all 0)),(4,.v .bool),(5,.v (.int .i64))],[tc],[.cells .bool],0,0⟩
 p:=fun u=>(q8 u.2.1.1)
 t:=fun u=>(u.1.2.1,u.1.2.2.1,u.2.2.1)
 n:=fun p t=>(((),(t.1,(t.2.1,()))),(((w8 p),()),(t.2.2,())))
 st:=fun Y p t ki ke=>cond (decide ((0:Int)<=t.2.1))
  (ask (V.va t.2.1 (fa t.2.2)) (cond (gx t.2.2 (ga t.2.1) false)
  (ki (t.1,(Ga (t.2.1-(1:Int))),t.2.2))
  (ask (V.va t.2.1 (fa p.1)) (cond (!(decide ((gx p.1 (ga t.2.1) Ta).1=(17:Int))))
  (ask (V.va t.2.1 (fa p.1)) (cond (!(decide ((gx p.1 (ga t.2.1) Ta).1=(20:Int))))
  (ask (V.va t.2.1 (fa p.1)) ((Oa (Jn.m (t.1,t.2.1,(gx p.1 (ga t.2.1) Ta).2.2.2.2.2.2,p,t.2.2)) (true,0)).bind fun e1=>
  cond e1
  (ask (V.va t.2.1 (fa t.2.2)) (ki (true,(Ga (t.2.1-(1:Int))),(Tb t.2.2 (ga t.2.1) true))))
  (ki (t.1,(Ga (t.2.1-(1:Int))),t.2.2))))
  (ask (V.va t.2.1 (fa t.2.2)) (ki (true,(Ga (t.2.1-(1:Int))),(Tb t.2.2 (ga t.2.1) true))))))
  (ask (V.va t.2.1 (fa t.2.2)) (ki (true,(Ga (t.2.1-(1:Int))),(Tb t.2.2 (ga t.2.1) true))))))))
  (ke ((t.1,t.2.2)))
 o:=fun Z p e K=>K (.exit 2) ⟨[(1,.loc 0 0),(3,.v (.all 0)),(4,.v (.bool e.1))],[[.lit zb p.1,.int .i64 p.2.1,.int .i64 p.2.2.1,.int .i64 p.t3.1,.lit Na p.t4.1,.lit yb p.t5.1,.lit Na p.t6.1,.lit ja p.t7]],⟨[.cells .bool e.2],0⟩,0⟩
 Je:=⟨[1,3,4,5],[],[],[]⟩
 pe:=[(.exit 2,⟨[1,3,4],[],[],[]⟩)]
def xw:LD (Ba) (Bool×(List Bool)) ((List Bool)) where
 sk:=⟨[(1,.loc 0 0),(3,.v (.all 0)),(4,.v .bool)],[tc],[.cells .bool],0,0⟩
 p:=fun u=>(q8 u.2.1.1)
 t:=fun u=>(u.1.2.1,u.2.2.1)
 n:=fun p t=>(((),(t.1,())),(((w8 p),()),(t.2,())))
 st:=fun Y p t ki ke=>cond t.1
  ((Oa (Hp.m p) (false,(Ga ((nt (fa p.1))-(1:Int))),t.2)).bind fun e1=>
  ki (e1.1,e1.2))
  (ke (t.2))
 o:=fun Z p e K=>K (.exit 0) ⟨[(3,.v (.all 0))],[],⟨[.cells .bool e],0⟩,0⟩
 Je:=⟨[1,3,4],[],[],[]⟩
 pe:=[(.exit 0,⟨[3],[],[],[]⟩)]
def Gn:LD (Int×(List Bool)) (Int) ((Unit) ⊕ (Unit)) where
 sk:=⟨[(69,.v (.all 0)),(70,.v (.int .i64)),(71,.v (.int .i64))],[],[.cells .bool],0,0⟩
 p:=fun u=>(u.1.2.1,u.2.2.1)
 t:=fun u=>u.1.2.2.1
 n:=fun p t=>(((),(p.1,(t,()))),((),(p.2,())))
 st:=fun Y p t ki ke=>cond (decide (t<p.1))
  (ask (V.va t (fa p.2)) (cond (!(gx p.2 (ga t) false))
  (ke (.inl ()))
  (ki ((Ga (t+(1:Int)))))))
  (ke (.inr (())))
 o:=fun Z p e K=>Sum.elim (fun e=>K .ret ⟨[(2,.v (.bool false))],[],⟨[],0⟩,0⟩) (fun e=>K (.exit 6) ⟨[],[],⟨[],0⟩,0⟩) e
 Je:=⟨[69,70,71],[],[],[]⟩
 pe:=[(.ret,⟨[2],[],[],[]⟩),(.exit 6,⟨[],[],[],[]⟩)]
def ON {X:Type} (a:Ba) (K:Bool->Option X):Option X:=
 ask (decide (0<=(nt (fa a.1)))&&decide ((nt (fa a.1))<=(nt (fa a.1)))&&decide (1 * (nt (fa a.1))<=70368744177664)&&decide ((nt (fa a.1))<9223372036854775808)) ((Oa (xw.m a) (true,(Ja (ga (nt (fa a.1))) (false:Bool)))).bind fun e1=>
 (Oa (Gn.m ((nt (fa e1)),e1)) 0).bind fun e2=>
 Sum.elim (fun e3=>K false)
 (fun e4=>K true) e2)
def wD:=fun a=>ON a some
def aaa:Spec:=j7.sp wD
noncomputable def Fu:Env:=⟨fun k=>[].contains k,Cb [],fun X k s K=>if k=12 then Jn.q X s K else if k=6 then Hp.q X s K else if k=3 then xw.q X s K else if k=20 then Gn.q X s K else none⟩
noncomputable def HQ:Code:=Lb [1,1,0,1,0,0,1,0,1,1,0,0,1,0,0,1,1,0,1,0,1,0,0] (vb Tryz.f33)
theorem pL (hc:Sa C Fu.call):Va Fu.loop (vc par C true [1] 78) (.loop HQ):=
 lO hc Jn (by intros;simp only [Jn,LD.m,nn])
noncomputable def uX:Code:=Lb [1,1,0,1,0,0,1,0,1,1,0,0] (vb Tryz.f33)
theorem DQ (hc:Sa C Fu.call):Va Fu.loop (vc par C true [1] 78) (.loop uX):=
 lO hc Hp (by intros;simp only [Hp,LD.m,nn]) (hl:=(Yc (by kernel_rfl) (Db (pL hc) Bc)))
noncomputable def vX:Code:=Lb [1,1,0,1,0,0] (vb Tryz.f33)
theorem FQ (hc:Sa C Fu.call):Va Fu.loop (vc par C true [1] 78) (.loop vX):=
 lO hc xw (by intros;simp only [xw,LD.m,nn]) (hl:=(Yc (by kernel_rfl) (Db (DQ hc) Bc)))
noncomputable def GQ:Code:=Lb [1,1,1,0,1,0,0] (vb Tryz.f33)
theorem oL (hc:Sa C Fu.call):Va Fu.loop (vc par C true [1] 78) (.loop GQ):=
 lO hc Gn (by intros;simp only [Gn,LD.m,nn])
theorem baa:OK (1) 33 (j7.sp wD):=
 fO (d:=0) (env:=Fu) (Aa cn) (fn:=Tryz.f33) (mc:=@ON) (by intros;simp only [wD,ON,nn]) (za:=[1]) (hl:=fun hc=>(Yc (by kernel_rfl) (Db (FQ hc) (Db (oL hc) Bc))))
def Vad:FS (Ba) (Bool) where
 sk:=⟨(.cons (.agg tc) .nil),[],0⟩
 a:=fun u=>(q8 u.1.1)
 n:=fun a=>(((w8 a),()),())
 o:=fun Z a r K=>K (.bool r) ⟨[],0⟩
def oD:PD (Ba) (Bool) where
 sk:=⟨[(1,.loc 0 0)],[tc],[],0,0⟩
 p:=fun u=>(q8 u.2.1.1)
 n:=fun p=>((),(((w8 p),()),()))
 st:=fun Y p ke=>cond (decide ((nt (fa p.1))<(1:Int)))
  (ke (true))
  (cond (decide ((4096:Int)<(nt (fa p.1))))
  (ke (true))
  (cond (decide (p.2.1<(0:Int)))
  (ke (true))
  (cond (decide ((nt (fa p.1))<=p.2.1))
  (ke (true))
  (ask (V.va p.2.1 (fa p.1)) (cond (!(decide ((gx p.1 (ga p.2.1) Ta).1=(17:Int))))
  (ke (true))
  ((BD p).bind fun r1=>
  ke ((!r1))))))))
 o:=fun Z p e K=>K .normal ⟨[(1,.loc 0 0),(47,.v (.bool e))],[[.lit zb p.1,.int .i64 p.2.1,.int .i64 p.2.2.1,.int .i64 p.t3.1,.lit Na p.t4.1,.lit yb p.t5.1,.lit Na p.t6.1,.lit ja p.t7]],⟨[],0⟩,0⟩
 Je:=⟨[1],[],[],[]⟩
 pe:=[(.normal,⟨[1,47],[],[],[]⟩)]
def nD:PD ((List Int)×Int×(List Fb)×Int×Int×Ba×Fb) (Bool) where
 sk:=⟨[(1,.loc 0 0),(3,.v (.lit (.int .i64))),(5,.v (.int .i64)),(6,.loc 1 0),(56,.v (.lit zb)),(57,.v (.int .i64)),(58,.v (.int .i64))],[tc,Wc],[],0,0⟩
 p:=fun u=>(u.1.1,u.1.2.1,u.1.2.2.1,u.1.t3.1,u.1.t4.1,(q8 u.2.1.1),(q8 u.2.1.2.1))
 n:=fun p=>((p.1,(p.2.1,(p.2.2.1,(p.t3.1,(p.t4.1,()))))),(((w8 p.t5.1),((w8 p.t6),())),()))
 st:=fun Y p ke=>cond (decide (p.2.2.2.2.2.2.1<(1:Int)))
  (ke (true))
  (cond (decide ((22:Int)<=p.2.2.2.2.2.2.1))
  (ke (true))
  (cond (decide (p.2.2.2.2.2.2.1=(17:Int)))
  (cond (!(decide (p.2.1=p.2.2.2.2.2.1.2.1)))
  (ke (true))
  ((KA p.2.2.2.2.2.2).bind fun r1=>
  cond (!r1)
  (ke (true))
  ((JA (p.2.2.2.2.2.2,(nt (fa p.2.2.2.2.2.1.1)))).bind fun r2=>
  ke ((!r2)))))
  ((KA p.2.2.2.2.2.2).bind fun r3=>
  cond (!r3)
  (ke (true))
  ((JA (p.2.2.2.2.2.2,(nt (fa p.2.2.2.2.2.1.1)))).bind fun r4=>
  ke ((!r4))))))
 o:=fun Z p e K=>K .normal ⟨[(1,.loc 0 0),(3,.v (.lit (.int .i64) p.1)),(5,.v (.int .i64 p.2.1)),(6,.loc 1 0),(56,.v (.lit zb p.2.2.1)),(57,.v (.int .i64 p.t3.1)),(58,.v (.int .i64 p.t4.1)),(94,.v (.bool e))],[[.lit zb p.t5.1.1,.int .i64 p.t5.1.2.1,.int .i64 p.t5.1.2.2.1,.int .i64 p.t5.1.t3.1,.lit Na p.t5.1.t4.1,.lit yb p.t5.1.t5.1,.lit Na p.t5.1.t6.1,.lit ja p.t5.1.t7],[.int .i64 p.t6.1,.int .i64 p.t7.1,.int .i64 p.t8.1,.int .i64 p.t9.1,.int .i64 p.t10.1,.int .i64 p.t11.1,.int .i64 p.t12.1,.int .i64 p.t13]],⟨[],0⟩,0⟩
 Je:=⟨[1,3,5,6,56,57,58],[],[],[]⟩
 pe:=[(.normal,⟨[1,3,5,6,56,57,58,94],[],[],[]⟩)]
def uw:PD ((List Int)×Int×Int×(List Fb)×Int×Int×(List Int)×Int×Int×(Ba×Fb)) (Bool) where
 sk:=⟨[(1,.loc 0 0),(3,.v (.lit (.int .i64))),(5,.v (.int .i64)),(6,.loc 1 0),(8,.v (.int .i64)),(56,.v (.lit zb)),(57,.v (.int .i64)),(58,.v (.int .i64)),(96,.v (.lit (.int .i64))),(97,.v (.int .i64)),(98,.v (.int .i64))],[tc,Wc],[],0,0⟩
 p:=fun u=>(u.1.1,u.1.2.1,u.1.2.2.1,u.1.t3.1,u.1.t4.1,u.1.t5.1,u.1.t6.1,u.1.t7.1,u.1.t8.1,((q8 u.2.1.1),(q8 u.2.1.2.1)))
 n:=fun p=>((p.1,(p.2.1,(p.2.2.1,(p.t3.1,(p.t4.1,(p.t5.1,(p.t6.1,(p.t7.1,(p.t8.1,()))))))))),(((w8 p.t9.1),((w8 p.t10),())),()))
 st:=fun Y p ke=>cond (decide (p.2.2.1<(0:Int)))
  (ke (true))
  (cond (decide (p.2.2.2.2.2.2.2.2.2.1.2.2.1<=p.2.2.1))
  (ke (true))
  (cond (decide ((nt (fa p.2.2.2.2.2.2.2.2.2.1.2.2.2.2.2.1))<=p.2.2.1))
  (ask (V.va (Ga (p.2.2.1-(nt (fa p.2.2.2.2.2.2.2.2.2.1.2.2.2.2.2.1)))) (fa p.1)) (ke ((decide (p.2.1<=(gx p.1 (ga (Ga (p.2.2.1-(nt (fa p.2.2.2.2.2.2.2.2.2.1.2.2.2.2.2.1))))) (0:Int)))))))
  (ke (false))))
 o:=fun Z p e K=>K .normal ⟨[(1,.loc 0 0),(3,.v (.lit (.int .i64) p.1)),(5,.v (.int .i64 p.2.1)),(6,.loc 1 0),(56,.v (.lit zb p.t3.1)),(57,.v (.int .i64 p.t4.1)),(58,.v (.int .i64 p.t5.1)),(96,.v (.lit (.int .i64) p.t6.1)),(97,.v (.int .i64 p.t7.1)),(98,.v (.int .i64 p.t8.1)),(128,.v (.bool e))],[[.lit zb p.t9.1.1,.int .i64 p.t9.1.2.1,.int .i64 p.t9.1.2.2.1,.int .i64 p.t9.1.t3.1,.lit Na p.t9.1.t4.1,.lit yb p.t9.1.t5.1,.lit Na p.t9.1.t6.1,.lit ja p.t9.1.t7],[.int .i64 p.t10.1,.int .i64 p.t11.1,.int .i64 p.t12.1,.int .i64 p.t13.1,.int .i64 p.t14.1,.int .i64 p.t15.1,.int .i64 p.t16.1,.int .i64 p.t17]],⟨[],0⟩,0⟩
 Je:=⟨[1,3,5,6,8,56,57,58,96,97,98],[],[],[]⟩
 pe:=[(.normal,⟨[1,3,5,6,56,57,58,96,97,98,128],[],[],[]⟩)]
def yp:LD ((List Int)×Int×(List Fb)×Int×Int×(List Int)×Int×Ba×Fb) (Int) ((Unit) ⊕ (Unit)) where
 sk:=⟨[(1,.loc 0 0),(3,.v (.lit (.int .i64))),(5,.v (.int .i64)),(6,.loc 1 0),(56,.v (.lit zb)),(57,.v (.int .i64)),(58,.v (.int .i64)),(96,.v (.lit (.int .i64))),(97,.v (.int .i64)),(98,.v (.int .i64))],[tc,Wc],[],0,0⟩
 p:=fun u=>(u.1.1,u.1.2.1,u.1.2.2.1,u.1.t3.1,u.1.t4.1,u.1.t5.1,u.1.t6.1,(q8 u.2.1.1),(q8 u.2.1.2.1))
 t:=fun u=>u.1.t7.1
 n:=fun p t=>((p.1,(p.2.1,(p.2.2.1,(p.t3.1,(p.t4.1,(p.t5.1,(p.t6.1,(t,())))))))),(((w8 p.t7.1),((w8 p.t8),())),()))
 st:=fun Y p t ki ke=>cond (decide (t<p.2.2.2.2.2.2.1))
  (ask (V.va t (fa p.2.2.2.2.2.1)) ((uw.m (p.1,p.2.1,(gx p.2.2.2.2.2.1 (ga t) (0:Int)),p.2.2.1,p.2.2.2.1,p.2.2.2.2.1,p.2.2.2.2.2.1,p.2.2.2.2.2.2.1,t,p.2.2.2.2.2.2.2)).bind fun e1=>
  cond e1
  (ke (.inl ()))
  (ki ((Ga (t+(1:Int)))))))
  (ke (.inr (())))
 o:=fun Z p e K=>Sum.elim (fun e=>K .ret ⟨[(2,.v (.bool false))],[],⟨[],0⟩,0⟩) (fun e=>K (.exit 2) ⟨[(1,.loc 0 0),(3,.v (.lit (.int .i64) p.1)),(6,.loc 1 0),(56,.v (.lit zb p.2.2.1)),(57,.v (.int .i64 p.t3.1)),(58,.v (.int .i64 p.t4.1))],[[.lit zb p.t7.1.1,.int .i64 p.t7.1.2.1,.int .i64 p.t7.1.2.2.1,.int .i64 p.t7.1.t3.1,.lit Na p.t7.1.t4.1,.lit yb p.t7.1.t5.1,.lit Na p.t7.1.t6.1,.lit ja p.t7.1.t7],[.int .i64 p.t8.1,.int .i64 p.t9.1,.int .i64 p.t10.1,.int .i64 p.t11.1,.int .i64 p.t12.1,.int .i64 p.t13.1,.int .i64 p.t14.1,.int .i64 p.t15]],⟨[],0⟩,0⟩) e
 Je:=⟨[1,3,5,6,56,57,58,96,97,98],[],[],[]⟩
 pe:=[(.ret,⟨[2],[],[],[]⟩),(.exit 2,⟨[1,3,6,56,57,58],[],[],[]⟩)]
def tw:PD (Y1) (Bool) where
 sk:=⟨[(1,.loc 0 0),(3,.v (.lit (.int .i64))),(6,.loc 1 0),(56,.v (.lit zb)),(57,.v (.int .i64)),(58,.v (.int .i64))],[tc,Wc],[],0,0⟩
 p:=fun u=>(u.1.1,u.1.2.1,u.1.2.2.1,u.1.t3.1,(q8 u.2.1.1),(q8 u.2.1.2.1))
 n:=fun p=>((p.1,(p.2.1,(p.2.2.1,(p.t3.1,())))),(((w8 p.t4.1),((w8 p.t5),())),()))
 st:=fun Y p ke=>cond (decide (p.2.2.2.2.2.1=(11:Int)))
  (ke (true))
  (ke ((decide (p.2.2.2.2.2.1=(14:Int)))))
 o:=fun Z p e K=>K .normal ⟨[(1,.loc 0 0),(3,.v (.lit (.int .i64) p.1)),(6,.loc 1 0),(9,.v (.bool e)),(56,.v (.lit zb p.2.1)),(57,.v (.int .i64 p.2.2.1)),(58,.v (.int .i64 p.t3.1))],[[.lit zb p.t4.1.1,.int .i64 p.t4.1.2.1,.int .i64 p.t4.1.2.2.1,.int .i64 p.t4.1.t3.1,.lit Na p.t4.1.t4.1,.lit yb p.t4.1.t5.1,.lit Na p.t4.1.t6.1,.lit ja p.t4.1.t7],[.int .i64 p.t5.1,.int .i64 p.t6.1,.int .i64 p.t7.1,.int .i64 p.t8.1,.int .i64 p.t9.1,.int .i64 p.t10.1,.int .i64 p.t11.1,.int .i64 p.t12]],⟨[],0⟩,0⟩
 Je:=⟨[1,3,6,56,57,58],[],[],[]⟩
 pe:=[(.normal,⟨[1,3,6,9,56,57,58],[],[],[]⟩)]
def sw:PD ((List Int)×Bool×(List Fb)×Int×Int×Ba×Fb) (Bool) where
 sk:=⟨[(1,.loc 0 0),(3,.v (.lit (.int .i64))),(6,.loc 1 0),(9,.v .bool),(56,.v (.lit zb)),(57,.v (.int .i64)),(58,.v (.int .i64))],[tc,Wc],[],0,0⟩
 p:=fun u=>(u.1.1,u.1.2.1,u.1.2.2.1,u.1.t3.1,u.1.t4.1,(q8 u.2.1.1),(q8 u.2.1.2.1))
 n:=fun p=>((p.1,(p.2.1,(p.2.2.1,(p.t3.1,(p.t4.1,()))))),(((w8 p.t5.1),((w8 p.t6),())),()))
 st:=fun Y p ke=>cond p.2.1
  (cond (decide (p.2.2.2.2.2.2.2.2.1<(0:Int)))
  (ke (true))
  (cond (decide ((nt (fa p.2.2.2.2.2.1.2.2.2.2.2.2.1))<=p.2.2.2.2.2.2.2.2.1))
  (ke (true))
  (cond (decide (p.2.2.2.2.2.2.1=(12:Int)))
  (cond (decide (p.2.2.2.2.2.2.2.2.1<(0:Int)))
  (ke (true))
  (cond (decide ((nt (fa p.2.2.2.2.2.1.2.2.2.2.1))<=p.2.2.2.2.2.2.2.2.1))
  (ke (true))
  (cond (decide (p.2.2.2.2.2.2.1=(13:Int)))
  (cond (decide (p.2.2.2.2.2.2.2.1<(0:Int)))
  (ke (true))
  (ke ((decide ((nt (fa p.2.2.2.2.2.1.2.2.2.2.2.1))<=p.2.2.2.2.2.2.2.1)))))
  (ke (false)))))
  (cond (decide (p.2.2.2.2.2.2.1=(13:Int)))
  (cond (decide (p.2.2.2.2.2.2.2.1<(0:Int)))
  (ke (true))
  (ke ((decide ((nt (fa p.2.2.2.2.2.1.2.2.2.2.2.1))<=p.2.2.2.2.2.2.2.1)))))
  (ke (false))))))
  (cond (decide (p.2.2.2.2.2.2.1=(12:Int)))
  (cond (decide (p.2.2.2.2.2.2.2.2.1<(0:Int)))
  (ke (true))
  (cond (decide ((nt (fa p.2.2.2.2.2.1.2.2.2.2.1))<=p.2.2.2.2.2.2.2.2.1))
  (ke (true))
  (cond (decide (p.2.2.2.2.2.2.1=(13:Int)))
  (cond (decide (p.2.2.2.2.2.2.2.1<(0:Int)))
  (ke (true))
  (ke ((decide ((nt (fa p.2.2.2.2.2.1.2.2.2.2.2.1))<=p.2.2.2.2.2.2.2.1)))))
  (ke (false)))))
  (cond (decide (p.2.2.2.2.2.2.1=(13:Int)))
  (cond (decide (p.2.2.2.2.2.2.2.1<(0:Int)))
  (ke (true))
  (ke ((decide ((nt (fa p.2.2.2.2.2.1.2.2.2.2.2.1))<=p.2.2.2.2.2.2.2.1)))))
  (ke (false))))
 o:=fun Z p e K=>K .normal ⟨[(1,.loc 0 0),(3,.v (.lit (.int .i64) p.1)),(6,.loc 1 0),(56,.v (.lit zb p.2.2.1)),(57,.v (.int .i64 p.t3.1)),(58,.v (.int .i64 p.t4.1)),(187,.v (.bool e))],[[.lit zb p.t5.1.1,.int .i64 p.t5.1.2.1,.int .i64 p.t5.1.2.2.1,.int .i64 p.t5.1.t3.1,.lit Na p.t5.1.t4.1,.lit yb p.t5.1.t5.1,.lit Na p.t5.1.t6.1,.lit ja p.t5.1.t7],[.int .i64 p.t6.1,.int .i64 p.t7.1,.int .i64 p.t8.1,.int .i64 p.t9.1,.int .i64 p.t10.1,.int .i64 p.t11.1,.int .i64 p.t12.1,.int .i64 p.t13]],⟨[],0⟩,0⟩
 Je:=⟨[1,3,6,9,56,57,58],[],[],[]⟩
 pe:=[(.normal,⟨[1,3,6,56,57,58,187],[],[],[]⟩)]
def qw:PD (Y1) (Bool) where
 sk:=⟨[(1,.loc 0 0),(3,.v (.lit (.int .i64))),(6,.loc 1 0),(56,.v (.lit zb)),(57,.v (.int .i64)),(58,.v (.int .i64))],[tc,Wc],[],0,0⟩
 p:=fun u=>(u.1.1,u.1.2.1,u.1.2.2.1,u.1.t3.1,(q8 u.2.1.1),(q8 u.2.1.2.1))
 n:=fun p=>((p.1,(p.2.1,(p.2.2.1,(p.t3.1,())))),(((w8 p.t4.1),((w8 p.t5),())),()))
 st:=fun Y p ke=>cond (decide (p.2.2.2.2.2.1=(1:Int)))
  (cond (decide (p.2.2.2.2.2.2.2.2.2.1<(-2147483648:Int)))
  (ke (true))
  (cond (decide ((2147483647:Int)<p.2.2.2.2.2.2.2.2.2.1))
  (ke (true))
  (cond (decide (p.2.2.2.2.2.1=(15:Int)))
  (cond (decide (p.2.2.2.2.2.2.2.2.2.1<(14:Int)))
  (ke (true))
  (cond (decide ((19:Int)<p.2.2.2.2.2.2.2.2.2.1))
  (ke (true))
  ((Gu (p.2.2.2.2.1,p.1,p.2.2.2.2.2)).bind fun r1=>
  ke ((!r1)))))
  ((Gu (p.2.2.2.2.1,p.1,p.2.2.2.2.2)).bind fun r2=>
  ke ((!r2))))))
  (cond (decide (p.2.2.2.2.2.1=(15:Int)))
  (cond (decide (p.2.2.2.2.2.2.2.2.2.1<(14:Int)))
  (ke (true))
  (cond (decide ((19:Int)<p.2.2.2.2.2.2.2.2.2.1))
  (ke (true))
  ((Gu (p.2.2.2.2.1,p.1,p.2.2.2.2.2)).bind fun r3=>
  ke ((!r3)))))
  ((Gu (p.2.2.2.2.1,p.1,p.2.2.2.2.2)).bind fun r4=>
  ke ((!r4))))
 o:=fun Z p e K=>K .normal ⟨[(1,.loc 0 0),(3,.v (.lit (.int .i64) p.1)),(56,.v (.lit zb p.2.1)),(57,.v (.int .i64 p.2.2.1)),(58,.v (.int .i64 p.t3.1)),(222,.v (.bool e))],[[.lit zb p.t4.1.1,.int .i64 p.t4.1.2.1,.int .i64 p.t4.1.2.2.1,.int .i64 p.t4.1.t3.1,.lit Na p.t4.1.t4.1,.lit yb p.t4.1.t5.1,.lit Na p.t4.1.t6.1,.lit ja p.t4.1.t7]],⟨[],0⟩,0⟩
 Je:=⟨[1,3,6,56,57,58],[],[],[]⟩
 pe:=[(.normal,⟨[1,3,56,57,58,222],[],[],[]⟩)]
def Hx:LD ((List Int)×(List Fb)×Int×Ba) (Int) ((Unit) ⊕ (Unit)) where
 sk:=⟨[(1,.loc 0 0),(3,.v (.lit (.int .i64))),(56,.v (.lit zb)),(57,.v (.int .i64)),(58,.v (.int .i64))],[tc],[],0,0⟩
 p:=fun u=>(u.1.1,u.1.2.1,u.1.2.2.1,(q8 u.2.1.1))
 t:=fun u=>u.1.t3.1
 n:=fun p t=>((p.1,(p.2.1,(p.2.2.1,(t,())))),(((w8 p.t3),()),()))
 st:=fun Y p t ki ke=>cond (decide (t<p.2.2.1))
  (ask (V.va t (fa p.2.1)) ((nD.m (p.1,t,p.2.1,p.2.2.1,t,p.2.2.2,(gx p.2.1 (ga t) Ta))).bind fun e1=>
  cond e1
  (ke (.inl ()))
  ((xD (gx p.2.1 (ga t) Ta)).bind fun r2=>
  (Oa (yp.m (p.1,t,p.2.1,p.2.2.1,t,r2,(nt (fa r2)),p.2.2.2,(gx p.2.1 (ga t) Ta))) 0).bind fun e3=>
  Sum.elim (fun e4=>ke (.inl ()))
  (fun e5=>(tw.m (p.1,p.2.1,p.2.2.1,t,p.2.2.2,(gx p.2.1 (ga t) Ta))).bind fun e6=>
  (sw.m (p.1,e6,p.2.1,p.2.2.1,t,p.2.2.2,(gx p.2.1 (ga t) Ta))).bind fun e7=>
  cond e7
  (ke (.inl ()))
  ((qw.m (p.1,p.2.1,p.2.2.1,t,p.2.2.2,(gx p.2.1 (ga t) Ta))).bind fun e8=>
  cond e8
  (ke (.inl ()))
  (ki ((Ga (t+(1:Int))))))) e3)))
  (ke (.inr (())))
 o:=fun Z p e K=>Sum.elim (fun e=>K .ret ⟨[(2,.v (.bool false))],[],⟨[],0⟩,0⟩) (fun e=>K (.exit 0) ⟨[(1,.loc 0 0)],[[.lit zb p.t3.1,.int .i64 p.t4.1,.int .i64 p.t5.1,.int .i64 p.t6.1,.lit Na p.t7.1,.lit yb p.t8.1,.lit Na p.t9.1,.lit ja p.t10]],⟨[],0⟩,0⟩) e
 Je:=⟨[1,3,56,57,58],[],[],[]⟩
 pe:=[(.ret,⟨[2],[],[],[]⟩),(.exit 0,⟨[1],[],[],[]⟩)]
def I2 {X:Type} (a:Ba) (K:Bool->Option X):Option X:=
 (oD.m a).bind fun e1=>
 cond e1
 (K false)
 ((AD a).bind fun r2=>
 cond (!r2.2)
 (K false)
 ((Oa (Hx.m (r2.1,a.1,(nt (fa a.1)),a)) 0).bind fun e3=>
 Sum.elim (fun e4=>K false)
 (fun e5=>(wD a).bind fun r6=>
 K r6) e3))
def aQ:=fun a=>I2 a some
def Uad:Spec:=Vad.sp aQ
noncomputable def Jg:Env:=⟨fun k=>[2000001,2000009,2000014,2000017,2000018,2000020].contains k,Cb [(27,raa),(28,oaa),(29,laa),(30,iaa),(31,faa),(32,daa),(33,aaa)],fun X k s K=>if k=2000001 then oD.q X s K else if k=2000009 then nD.q X s K else if k=2000014 then uw.q X s K else if k=12 then yp.q X s K else if k=2000017 then tw.q X s K else if k=2000018 then sw.q X s K else if k=2000020 then qw.q X s K else if k=7 then Hx.q X s K else none⟩
noncomputable def E2:Code:=Lb [1,0,0] (vb Tryz.f8)
theorem VU (hc:Sa C Jg.call):Va Jg.loop (vc par C true [1,6] 226) E2:=
 pO (Lg:=⟨Zz Jg.join 2000001,Jg.call,Jg.loop⟩) hc rfl oD (by intros;simp only [oD,PD.m,nn])
noncomputable def D2:Code:=Lb [1,1,1,1,0,1,0,0,1,1,0,0,1,0,0] (vb Tryz.f8)
theorem TU (hc:Sa C Jg.call):Va Jg.loop (vc par C true [1,6] 226) D2:=
 pO (Lg:=⟨Zz Jg.join 2000009,Jg.call,Jg.loop⟩) hc rfl nD (by intros;simp only [nD,PD.m,nn])
noncomputable def YU:Code:=Lb [1,1,1,1,0,1,0,0,1,1,0,0,1,1,0,1,0,0,1,1,0,0,1,0] (vb Tryz.f8)
theorem ZP (hc:Sa C Jg.call):Va Jg.loop (vc par C true [1,6] 226) YU:=
 pO (Lg:=⟨Zz Jg.join 2000014,Jg.call,Jg.loop⟩) hc rfl uw (by intros;simp only [uw,PD.m,nn])
noncomputable def aV:Code:=Lb [1,1,1,1,0,1,0,0,1,1,0,0,1,1,0,1,0,0] (vb Tryz.f8)
theorem bQ (hc:Sa C Jg.call):Va Jg.loop (vc par C true [1,6] 226) (.loop aV):=
 lO hc yp (by intros;simp only [yp,LD.m,nn]) (hl:=(Yc (by kernel_rfl) (Db (ZP hc) Bc)))
noncomputable def XU:Code:=Lb [1,1,1,1,0,1,0,0,1,1,0,0,1,1,1,0] (vb Tryz.f8)
theorem YP (hc:Sa C Jg.call):Va Jg.loop (vc par C true [1,6] 226) XU:=
 pO (Lg:=⟨Zz Jg.join 2000017,Jg.call,Jg.loop⟩) hc rfl tw (by intros;simp only [tw,PD.m,nn])
noncomputable def WU:Code:=Lb [1,1,1,1,0,1,0,0,1,1,0,0,1,1,1,1,0,0] (vb Tryz.f8)
theorem XP (hc:Sa C Jg.call):Va Jg.loop (vc par C true [1,6] 226) WU:=
 pO (Lg:=⟨Zz Jg.join 2000018,Jg.call,Jg.loop⟩) hc rfl sw (by intros;simp only [sw,PD.m,nn])
noncomputable def UU:Code:=Lb [1,1,1,1,0,1,0,0,1,1,0,0,1,1,1,1,1,0] (vb Tryz.f8)
theorem VP (hc:Sa C Jg.call):Va Jg.loop (vc par C true [1,6] 226) UU:=
 pO (Lg:=⟨Zz Jg.join 2000020,Jg.call,Jg.loop⟩) hc rfl qw (by intros;simp only [qw,PD.m,nn])
noncomputable def G2:Code:=Lb [1,1,1,1,0,1,0,0] (vb Tryz.f8)
theorem ZU (hc:Sa C Jg.call):Va Jg.loop (vc par C true [1,6] 226) (.loop G2):=
 lO hc Hx (by intros;simp only [Hx,LD.m,nn]) (hl:=(Yc (by kernel_rfl) (Db (TU hc) (Db (bQ hc) (Db (YP hc) (Db (XP hc) (Db (VP hc) Bc)))))))
theorem Wad:OK (5) 8 (Vad.sp aQ):=
 fO (d:=4) (env:=Jg) (Aa (cc saa (cc paa (cc maa (cc jaa (cc gaa (cc eaa (cc baa cn)))))))) (fn:=Tryz.f8) (mc:=@I2) (by intros;simp only [aQ,I2,nn]) (za:=[1,6]) (hl:=fun hc=>(Yc (by kernel_rfl) (Db (VU hc) (Db (ZU hc) Bc))))
end
end Go.U
end
