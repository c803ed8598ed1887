/- The functions of the program as Lean functions, and that the evaluator says so. -/
import Derived.Test.YtcbcifeaalkdfaaGreatDoorB3
import Derived.Test.YtcbcifeaalkdfaaGreatDoorA4
import Derived.Test.YtcbcifeaalkdfaaGreatDoorProg
import Derived.KernelRfl
import Derived.Test.YtcbcifeaalkdfaaGreatDoorB4
import Derived.Lib.ItoaNum
set_option linter.unusedVariables false
set_option linter.unusedSimpArgs false
set_option linter.unusedSectionVars false
namespace Go.U
open Go Go.Proofs
def wi64 (n:Int):Int:=IntKind.wrap .i64 n
def wu64 (n:Int):Int:=IntKind.wrap .u64 n
def wu8 (n:Int):Int:=IntKind.wrap .u8 n
def nt (n:Nat):Int:=n
def gx {α:Type} (l:List α) (i:Nat) (d:α):α:=l.getD i d
def str (l:List UInt8):ByteArray:=⟨l.toArray⟩
def len8:List UInt8:=[0,1,2,2,3,3,3,3,4,4,4,4,4,4,4,4,5,5,5,5,5,5,5,5,5,5,5,5,5,5,5,5,6,6,6,6,6,6,6,6,6,6,6,6,6,6,6,6,6,6,6,6,6,6,6,6,6,6,6,6,6,6,6,6,7,7,7,7,7,7,7,7,7,7,7,7,7,7,7,7,7,7,7,7,7,7,7,7,7,7,7,7,7,7,7,7,7,7,7,7,7,7,7,7,7,7,7,7,7,7,7,7,7,7,7,7,7,7,7,7,7,7,7,7,7,7,7,7,8,8,8,8,8,8,8,8,8,8,8,8,8,8,8,8,8,8,8,8,8,8,8,8,8,8,8,8,8,8,8,8,8,8,8,8,8,8,8,8,8,8,8,8,8,8,8,8,8,8,8,8,8,8,8,8,8,8,8,8,8,8,8,8,8,8,8,8,8,8,8,8,8,8,8,8,8,8,8,8,8,8,8,8,8,8,8,8,8,8,8,8,8,8,8,8,8,8,8,8,8,8,8,8,8,8,8,8,8,8,8,8,8,8,8,8,8,8,8,8,8,8,8,8,8,8,8,8]
def byteAt (s:ByteArray) (i:Int):Int:=(s[i.toNat]!.toNat:Int)
def bits_and (k:IntKind) (x y:Int):Int:=let a:=BitVec.ofInt k.bits x;let b:=BitVec.ofInt k.bits y;k.wrap (a &&& b).toNat
def bits_or (k:IntKind) (x y:Int):Int:=let a:=BitVec.ofInt k.bits x;let b:=BitVec.ofInt k.bits y;k.wrap (a ||| b).toNat
abbrev cMark:CT:=(.pair .bool .bool)
abbrev TMark:Type:=(Bool×Bool)
abbrev dMark:TMark:=(false,false)
abbrev cItv:CT:=(.pair (.int .i64) (.int .i64))
abbrev TItv:Type:=(Int×Int)
abbrev dItv:TItv:=((0:Int),(0:Int))
abbrev TWords:Type:=(Int×Int)
abbrev cScalar:CT:=(.pair .str cItv)
abbrev TScalar:Type:=(ByteArray×TItv)
abbrev dScalar:TScalar:=(ByteArray.empty,dItv)
abbrev cCongr:CT:=(.pair .bool cItv)
abbrev TCongr:Type:=(Bool×TItv)
abbrev dCongr:TCongr:=(false,dItv)
abbrev TProduct:Type:=(TWords×Bool)
abbrev cArray:CT:=(.pair .str (.pair (.int .i64) cItv))
abbrev TArray:Type:=(ByteArray×(Int×TItv))
abbrev dArray:TArray:=(ByteArray.empty,((0:Int),dItv))
abbrev cMods:CT:=(.pair .bool (.pair (.slice cCongr) (.slice cCongr)))
abbrev TMods:Type:=(Bool×((List TCongr)×(List TCongr)))
abbrev dMods:TMods:=(false,([],[]))
abbrev cInstr:CT:=(.pair (.int .i64) (.pair (.int .i64) (.pair (.int .i64) (.pair (.int .i64) (.pair (.int .i64) (.pair (.int .i64) cItv))))))
abbrev TInstr:Type:=(Int×(Int×(Int×(Int×(Int×(Int×TItv))))))
abbrev dInstr:TInstr:=((0:Int),((0:Int),((0:Int),((0:Int),((0:Int),((0:Int),dItv))))))
abbrev cGraph:CT:=(.pair (.slice cInstr) (.pair (.int .i64) (.pair (.int .i64) (.pair (.int .i64) (.pair (.slice cArray) (.pair (.slice cScalar) (.pair (.slice cArray) (.slice cItv))))))))
abbrev TGraph:Type:=((List TInstr)×(Int×(Int×(Int×((List TArray)×((List TScalar)×((List TArray)×(List TItv))))))))
def bodyOf (f:Func):Code:=match f.body with|some c=>c|none=> .skip
def kid:Code->Nat->Code
 | .seq a _,0=>a
 | .seq _ b,1=>b
 | .cond _ a _,0=>a
 | .cond _ _ b,1=>b
 | .block _ c,0=>c
 | .loop c,0=>c
 | .scope c,0=>c
 | .rangeFunc _ _ a _,0=>a
 | .rangeFunc _ _ _ b,1=>b
 |c,_=>c
def subAt:List Nat->Code->Code
 |[],c=>c
 |i::l,c=>subAt l (kid c i)
def offJ (j:Nat->Bool) (key k:Nat):Bool:=if k=key then false else j k
def lookF {α:Type} (d:α):List (FuncId×α)->FuncId->α
 |[],_=>d
 |(g,x)::l,f=>if f=g then x else lookF d l f
def rfG:Code->Operand
 | .rangeFunc g _ _ _=>g
 |_=> .tmp 0
def rfPs:Code->Array Tmp
 | .rangeFunc _ ps _ _=>ps
 |_=> #[]
def rfA:Code->Code
 | .rangeFunc _ _ a _=>a
 |c=>c
def rfB:Code->Code
 | .rangeFunc _ _ _ b=>b
 |c=>c
def rfOf (n:Nat) (c:Code):RFn:=⟨n,(rfPs c).toList,rfA c,rfB c⟩
noncomputable def rfT:Nat->RFn:=lookF ⟨0,[],.skip,.skip⟩ [(250004,rfOf 28 (subAt [1,1,0,1,0] (bodyOf Tryz.f25))),(260009,rfOf 44 (subAt [1,1,1,0,1,0] (bodyOf Tryz.f26)))]
noncomputable instance:Tbl:=⟨rfT,100,5⟩
def pow10:List V.AV:=[.int .u64 1,.int .u64 10,.int .u64 100,.int .u64 1000,.int .u64 10000,.int .u64 100000,.int .u64 1000000,.int .u64 10000000,.int .u64 100000000,.int .u64 1000000000,.int .u64 10000000000,.int .u64 100000000000,.int .u64 1000000000000,.int .u64 10000000000000,.int .u64 100000000000000,.int .u64 1000000000000000,.int .u64 10000000000000000,.int .u64 100000000000000000,.int .u64 1000000000000000000,.int .u64 10000000000000000000]
noncomputable def parX:FuncId->Option (List V.AV->V.AH->Option (V.AV×V.AH)):=lookF none [(68,some (V.strX 100 5)),(118,some (V.ccX 100)),(120,some (V.fiX))]
noncomputable def parF:List (FuncId×Option Func):=[(4,some Tryz.f4),(10,some Tryz.f10),(11,some Tryz.f11),(12,some Tryz.f12),(13,some Tryz.f13),(14,some Tryz.f14),(15,some Tryz.f15),(16,some Tryz.f16),(17,some Tryz.f17),(18,some Tryz.f18),(19,some Tryz.f19),(21,some Tryz.f21),(23,some Tryz.f23),(25,some Tryz.f25),(26,some Tryz.f26),(27,some Tryz.f27),(30,some Tryz.f30),(32,some Tryz.f32),(37,some Tryz.f37),(38,some Tryz.f38),(39,some Tryz.f39),(40,some Tryz.f40),(41,some Tryz.f41),(42,some Tryz.f42),(43,some Tryz.f43),(44,some Tryz.f44),(45,some Tryz.f45),(46,some Tryz.f46),(47,some Tryz.f47),(48,some Tryz.f48),(49,some Tryz.f49),(50,some Tryz.f50),(51,some Tryz.f51),(52,some Tryz.f52),(53,some Tryz.f53),(54,some Tryz.f54),(55,some Tryz.f55),(56,some Tryz.f56),(57,some Tryz.f57),(58,some Tryz.f58),(63,some Tryz.f63),(64,some Tryz.f64),(65,some Tryz.f65),(67,some Tryz.f67),(70,some Tryz.f70),(71,some Tryz.f71),(77,some Tryz.f77),(78,some Tryz.f78),(79,some Tryz.f79),(80,some Tryz.f80),(81,some Tryz.f81),(82,some Tryz.f82),(83,some Tryz.f83),(84,some Tryz.f84),(85,some Tryz.f85),(86,some Tryz.f86),(87,some Tryz.f87),(88,some Tryz.f88),(89,some Tryz.f89),(90,some Tryz.f90),(91,some Tryz.f91),(92,some Tryz.f92),(93,some Tryz.f93),(94,some Tryz.f94),(95,some Tryz.f95),(96,some Tryz.f96),(97,some Tryz.f97),(98,some Tryz.f98),(99,some Tryz.f99),(100,some Tryz.f100),(101,some Tryz.f101),(102,some Tryz.f102),(103,some Tryz.f103),(104,some Tryz.f104),(105,some Tryz.f105),(106,some Tryz.f106),(107,some Tryz.f107),(108,some Tryz.f108),(109,some Tryz.f109),(110,some Tryz.f110),(111,some Tryz.f111),(112,some Tryz.f112),(113,some Tryz.f113),(114,some Tryz.f114),(115,some Tryz.f115),(116,some Tryz.f116),(117,some Tryz.f117),(119,some Tryz.f119),(122,some Tryz.f122),(123,some Tryz.f123),(124,some Tryz.f124),(127,some Tryz.f127),(128,some Tryz.f128),(129,some Tryz.f129),(130,some Tryz.f130),(131,some Tryz.f131),(132,some Tryz.f132),(133,some Tryz.f133),(134,some Tryz.f134),(135,some Tryz.f135),(136,some Tryz.f136),(137,some Tryz.f137),(138,some Tryz.f138),(139,some Tryz.f139),(140,some Tryz.f140),(141,some Tryz.f141),(142,some Tryz.f142),(143,some Tryz.f143),(144,some Tryz.f144),(145,some Tryz.f145),(146,some Tryz.f146),(147,some Tryz.f147),(148,some Tryz.f148),(149,some Tryz.f149),(150,some Tryz.f150),(151,some Tryz.f151),(152,some Tryz.f152),(153,some Tryz.f153),(154,some Tryz.f154),(155,some Tryz.f155),(156,some Tryz.f156),(158,some Tryz.f158),(162,some Tryz.f162),(163,some Tryz.f163),(164,some Tryz.f164),(169,some Tryz.f169),(171,some Tryz.f171),(175,some Tryz.f175),(66,some Tryz.f66),(68,some Tryz.f68),(118,some Tryz.f118),(120,some Tryz.f120)]
noncomputable def par:V.Par where
 P:=Tryz.prog
 fns:=lookF none parF
 loc:=lookF [] [(4,[4,5,9,10]),(10,[1,6]),(11,[2,3]),(13,[3,4,6,1000011]),(14,[3,4,6]),(15,[1,2,3]),(16,[4,5,8,10,11,12,13,1000059,1000069,1000094]),(17,[2,3]),(18,[1]),(19,[4,5,8,9,11,12,13,14]),(21,[1,10]),(23,[2]),(27,[2,3]),(30,[2,3,7,9]),(32,[1,2,3,5,7]),(37,[1,4,6,8,10]),(38,[1,6,10]),(39,[1]),(40,[2]),(41,[1]),(42,[3,5]),(43,[1]),(45,[0]),(46,[2,3,7]),(47,[4,5,7]),(48,[2,3,7]),(49,[1,2]),(50,[2,4]),(51,[2,3,4]),(52,[5,7,8,10,11,1000025,1000029]),(53,[2,3,4,5]),(54,[2]),(55,[5]),(56,[2,3,4]),(57,[5,6,8,10,12,13]),(58,[1]),(64,[2]),(65,[2]),(67,[1]),(70,[2]),(71,[4]),(81,[3,5,10]),(82,[1]),(83,[2,3,4]),(84,[0]),(85,[2,3,4]),(86,[1,2]),(87,[2,3,4]),(88,[1,2]),(89,[2,3,4]),(90,[2,3,4]),(91,[2,3,4,6]),(92,[2,3,4]),(93,[2,3,4]),(94,[3,4,5,1000057,1000070,1000074]),(95,[4,5,7,8,9]),(96,[2,3,4,5]),(97,[2]),(98,[4]),(99,[2,3]),(101,[4,5,6,7,8]),(102,[2,3,4]),(103,[2,3,4]),(104,[1]),(105,[0]),(106,[0]),(107,[2]),(108,[4]),(109,[4]),(112,[3]),(113,[4,5,6,7,8]),(114,[2,3,4]),(115,[1]),(122,[4]),(123,[6]),(124,[0]),(127,[2]),(130,[4]),(131,[2]),(132,[4]),(133,[0]),(134,[0]),(135,[1,2]),(136,[1,2]),(137,[2,3,4]),(138,[2,3,4]),(139,[2,3,4]),(140,[2,3,4,5]),(141,[2,3,4,5]),(142,[2,3,4]),(143,[1]),(144,[0]),(145,[2]),(146,[4]),(150,[1,2]),(163,[0]),(164,[1,2])]
 keep:=lookF [] [(4,List.range 52),(10,List.range 226),(11,List.range 32),(12,List.range 53),(13,List.range 12),(14,List.range 17),(15,List.range 20),(16,List.range 138),(17,List.range 66),(18,List.range 28),(19,List.range 149),(21,List.range 79),(23,List.range 61),(25,List.range 28),(26,List.range 44),(27,List.range 19),(30,List.range 56),(32,List.range 42),(37,List.range 174),(38,List.range 91),(39,List.range 96),(40,List.range 44),(41,List.range 38),(42,List.range 49),(43,List.range 78),(44,List.range 28),(45,List.range 20),(46,List.range 46),(47,List.range 57),(48,List.range 45),(49,List.range 14),(50,List.range 13),(51,List.range 19),(52,List.range 81),(53,List.range 85),(54,List.range 14),(55,List.range 16),(56,List.range 28),(57,List.range 112),(58,List.range 8),(63,List.range 6),(64,List.range 33),(65,List.range 30),(67,List.range 25),(70,List.range 5),(71,List.range 12),(77,List.range 9),(78,List.range 7),(79,List.range 7),(80,List.range 12),(81,List.range 95),(82,List.range 25),(83,List.range 15),(84,List.range 2),(85,List.range 7),(86,List.range 13),(87,List.range 7),(88,List.range 22),(89,List.range 25),(90,List.range 25),(91,List.range 85),(92,List.range 58),(93,List.range 47),(94,List.range 76),(95,List.range 149),(96,List.range 80),(97,List.range 20),(98,List.range 14),(99,List.range 19),(100,List.range 7),(101,List.range 56),(102,List.range 109),(103,List.range 27),(104,List.range 8),(105,List.range 2),(106,List.range 2),(107,List.range 34),(108,List.range 20),(109,List.range 11),(110,List.range 12),(111,List.range 12),(112,List.range 9),(113,List.range 53),(114,List.range 107),(115,List.range 144),(116,List.range 52),(117,List.range 20),(119,List.range 15),(122,List.range 16),(123,List.range 117),(124,List.range 2),(127,List.range 12),(128,List.range 12),(129,List.range 10),(130,List.range 24),(131,List.range 11),(132,List.range 39),(133,List.range 2),(134,List.range 2),(135,List.range 13),(136,List.range 20),(137,List.range 25),(138,List.range 25),(139,List.range 52),(140,List.range 54),(141,List.range 47),(142,List.range 27),(143,List.range 8),(144,List.range 2),(145,List.range 32),(146,List.range 18),(147,List.range 36),(148,List.range 51),(149,List.range 34),(150,List.range 8),(151,List.range 10),(152,List.range 10),(153,List.range 36),(154,List.range 12),(155,List.range 39),(156,List.range 28),(158,List.range 9),(162,List.range 19),(163,List.range 2),(164,List.range 8),(169,List.range 135),(171,List.range 25),(175,List.range 6),(66,List.range 19),(68,List.range 14),(118,List.range 20),(120,List.range 8)]
 frz:=lookF false [(16,true),(19,true),(21,true),(26,true),(32,true),(38,true),(41,true),(45,true),(48,true),(52,true),(55,true),(57,true),(58,true)]
 ext:=parX
 glob:=lookF none [(1,some pow10)]
def glob (_:Nat):Option (List UV):=none
theorem glob_ok:GlobOK par glob:=fun i row h=>by simp [glob] at h
def OK (d:Nat) (f:FuncId) (s:Spec):Prop:=∀ k,d<=k->SpecOK (V.call par k) f s
def OKY (d:Nat) (s:Spec):Prop:=∀ k,d<=k->SpecYl (V.call par k) s
theorem OK_le {d d':Nat} {f:FuncId} {s:Spec} (h:OK d f s) (hd:d<=d'):OK d' f s:=fun k hk=>h k (Nat.le_trans hd hk)
theorem OK_none {d:Nat} {f:FuncId} {A R:Type} {S:FS A R} {m:A->Option R} (hm:∀ a,m a=none):OK d f (S.sp m):=by
 intro k _ X args H K out h;unfold FS.sp at h;obtain ⟨u,hu,h⟩:=Option.bind_eq_some_iff.1 h;rw [hm] at h;cases h
def CallsOK (d:Nat) (l:List (FuncId×Spec)):Prop:=∀ k,d<=k->∀ p∈l,SpecOK (V.call par k) p.1 p.2
def CallsOKY (d:Nat) (l:List (FuncId×Spec)):Prop:=∀ k,d<=k->∀ p∈l,SpecYl (V.call par k) p.2
theorem cn {d:Nat}:CallsOK d []:=fun _ _=>ok_nil
theorem cyn {d:Nat}:CallsOKY d []:=fun _ _=>yl_nil
theorem cc {d0 d:Nat} {f:FuncId} {s:Spec} {l:List (FuncId×Spec)} (h:OK d0 f s) (hl:CallsOK d l) (hd:d0<=d:=by omega):CallsOK d ((f,s)::l):=fun k hk=>ok_cons (h k (Nat.le_trans hd hk)) (hl k hk)
def FS.tk {A R:Type} (S:FS A R) (args:List UV) (H:UH):Bool:=(S.sk.take args H).isSome
def alt (b:List UV->UH->Bool) (s g:Spec):Spec:=fun X args H K=>cond (b args H) (s X args H K) (g X args H K)
theorem cA {d0 d:Nat} {f:FuncId} {b:List UV->UH->Bool} {s g:Spec} {l:List (FuncId×Spec)} (h:OK d0 f s) (hl:CallsOK d ((f,g)::l)) (hd:d0<=d:=by omega):CallsOK d ((f,alt b s g)::l):=fun k hk=>
 ok_cons (fun X args H K out ho=>by
  unfold alt at ho;cases hb:b args H<;>rw [hb] at ho
  · exact hl k hk _ List.mem_cons_self X args H K out ho
  · exact h k (Nat.le_trans hd hk) X args H K out ho) fun p hp=>hl k hk p (List.mem_cons_of_mem _ hp)
theorem ccy {d0 d:Nat} {f:FuncId} {s:Spec} {l:List (FuncId×Spec)} (h:OKY d0 s) (hl:CallsOKY d l) (hd:d0<=d:=by omega):CallsOKY d ((f,s)::l):=fun k hk=>yl_cons (h k (Nat.le_trans hd hk)) (hl k hk)
theorem callsL_sim {d:Nat} {l:List (FuncId×Spec)} (h:CallsOK d l):∀ k,d<=k->SimCall (V.call par k) (callsL l):=fun k hk=>callsOf_sim (h k hk)
theorem callsYL_sim {d:Nat} {l ly:List (FuncId×Spec)} (h:CallsOK d l) (hy:CallsOKY d ly):∀ k,d<=k->SimCall (V.call par k) (callsYL l ly):=fun k hk=>callsY_sim (h k hk) (hy k hk)
theorem fnOK {d:Nat} {env:Env} (hcs:∀ k,d<=k->SimCall (V.call par k) env.call) {f:FuncId} {fn:Func} {locs:List Nat} {sh:Sh} {fz:Bool}
  (hd:(par.fns f,(match fn.body with|some _=>true|none=>false),par.ext f,par.loc f,par.keep f,par.frz f)=(some fn,true,none,locs,List.range fn.ntmps,fz))
  (hl:∀ {C:V.Callee},SimCall C env.call->∀ c'∈loops env.join (bodyOf fn),LoopSim env.loop (vc par C true locs fn.ntmps) c') {A' R:Type} {S:FS A' R} {m:A'->Option R} {mc:(X:Type)->A'->(R->Option X)->Option X}
  (hrun:∀ X a K,fnRun par glob env locs fn sh fz (S.sk.args (S.n a)) (S.sk.heap (S.n a)) K=mc X a (fun r=>S.o _ a r K))
  (hnat:∀ X a K,mc X a K=(m a).bind K) (hflat:∀ u,S.n (S.a u)=u):OK (d+1) f (S.sp m):=by
 intro k hk;obtain ⟨k,rfl⟩:∃ j,k=j+1:=⟨k-1,by omega⟩;have hc:=hcs k (by omega);simp only [Prod.mk.injEq] at hd;obtain ⟨h1,h2,h3,h4,h5,h6⟩:=hd;have hb:fn.body=some (bodyOf fn):=by
  unfold bodyOf;cases hb:fn.body with
  |none=>rw [hb] at h2;simp at h2
  |some c=>rfl
 exact fn_form glob_ok hc h1 hb h3 h4 h5 h6 (hl hc) S hrun hnat hflat
theorem ylOK {d:Nat} {env:Env} (hcs:∀ k,d<=k->SimCall (V.call par k) env.call) {id:Nat} {r:RFn} (hrf:rfT id=r)
  (h1:∀ {C:V.Callee},SimCall C env.call->∀ c'∈loops env.join r.assign,LoopSim env.loop (vc par C false [] r.n) c') (h2:∀ {C:V.Callee},SimCall C env.call->∀ c'∈loops env.join r.body,LoopSim env.loop (vc par C false [] r.n) c') {A' R:Type} {S:FS A' R} {m:A'->Option R} {mc:(X:Type)->A'->(R->Option X)->Option X}
  (hrun:∀ X a K,ylRun par glob env id r (S.sk.args (S.n a)) (S.sk.heap (S.n a)) K=mc X a (fun r=>S.o _ a r K))
  (hnat:∀ X a K,mc X a K=(m a).bind K) (hflat:∀ u,S.n (S.a u)=u):OKY (d+1) (S.sp m):=by
 intro k hk;obtain ⟨k,rfl⟩:∃ j,k=j+1:=⟨k-1,by omega⟩;have hc:=hcs k (by omega);exact yl_form glob_ok hc hrf (h1 hc) (h2 hc) S hrun hnat hflat
theorem nn:(∀ {α β:Type} (b:Bool) (x y:Option α) (k:α->Option β),(cond b x y).bind k=cond b (x.bind k) (y.bind k))/\(∀ {α β:Type} (b:Bool) (x:Option α) (k:α->Option β),(ask b x).bind k=ask b (x.bind k))/\(∀ {α β γ δ:Type} (e:α ⊕ β) (f:α->Option γ) (g:β->Option γ) (k:γ->Option δ),(e.elim f g).bind k=e.elim (fun a=>(f a).bind k) (fun a=>(g a).bind k))/\(∀ {α β γ:Type} (x:Option α) (f:α->Option β) (g:β->Option γ),(x.bind f).bind g=x.bind fun a=>(f a).bind g)/\
  (∀ {α β:Type} (a:α) (f:α->Option β),(some a).bind f=f a)/\(∀ {α β:Type} (f:α->Option β),(none:Option α).bind f=none)/\(∀ {α β γ:Type} (f:α->γ) (g:β->γ) (a:α),Sum.elim f g (.inl a)=f a)/\∀ {α β γ:Type} (f:α->γ) (g:β->γ) (b:β),Sum.elim f g (.inr b)=g b:=
 ⟨n1,n2,n3,n4,n5,n6,n7,n8⟩
theorem fO {d:Nat} {env:Env} (hcs:∀ k,d<=k->SimCall (V.call par k) env.call) {f:FuncId} {fn:Func} {A' R:Type} {S:FS A' R} {m:A'->Option R} {mc:(X:Type)->A'->(R->Option X)->Option X} (hnat:∀ X a K,mc X a K=(m a).bind K) (locs:List Nat:=[]) (sh:Sh:= .any) (fz:Bool:=false)
 (hl:∀ {C:V.Callee},SimCall C env.call->∀ c'∈loops env.join (bodyOf fn),LoopSim env.loop (vc par C true locs fn.ntmps) c':=by intro _ _;refine lp_of ?_ lp_nil;kernel_rfl)
 (hd:(par.fns f,(match fn.body with|some _=>true|none=>false),par.ext f,par.loc f,par.keep f,par.frz f)=(some fn,true,none,locs,List.range fn.ntmps,fz):=by kernel_rfl)
 (hrun:∀ X a K,fnRun par glob env locs fn sh fz (S.sk.args (S.n a)) (S.sk.heap (S.n a)) K=mc X a (fun r=>S.o _ a r K):=by intro _ _ _;kernel_rfl) (hflat:∀ u,S.n (S.a u)=u:=by intro _;rfl):OK (d+1) f (S.sp m):=fnOK hcs hd hl hrun hnat hflat
section
variable {C:V.Callee} {rf:Bool} {locs:List Nat} {n:Nat}
theorem lO {env:Env} (hc:SimCall C env.call) {c:Code} {P T E:Type} (L:LD P T E) (hnat:∀ Y p t ki ke,L.st Y p t ki ke=(L.m p t).bind (Sum.elim ki ke))
 (hl:∀ c'∈loops env.join c,LoopSim env.loop (vc par C rf locs n) c':=by refine lp_of ?_ lp_nil;kernel_rfl)
 (hk:(keepB n L.pol&&L.pe.all fun q=>keepB n q.2)=true:=by kernel_rfl)
 (hstep:∀ p t,code par glob env locs n c (L.sk.fill (L.n p t)) (finU L.pol (peOf L.pe))=L.st _ p t (fun t=>some (.inl (L.sk.fill (L.n p t)))) (fun e=>some (.inr (L.o _ p e Prod.mk))):=by intro _ _;kernel_rfl)
 (hflat:∀ u,L.n (L.p u) (L.t u)=u:=by intro _;rfl) (ho:∀ Z p e K,L.o Z p e K=K (L.o _ p e Prod.mk).1 (L.o _ p e Prod.mk).2:=by intro _ _ e _;first|rfl|(rcases e with e|e<;>rfl)|(rcases e with e|e|e<;>rfl)|(rcases e with e|e|e|e<;>rfl)|exact nomatch e)
 (hq:∀ X s K,env.loop X (loopKey c) s K=L.q X s K:=by intro _ _ _;kernel_rfl):LoopSim env.loop (vc par C rf locs n) (.loop c):=loop_form glob_ok hc hl L hk hnat hstep hflat ho hq
theorem pO {env env0:Env} (hc:SimCall C env.call) (hcall:env0.call=env.call) {c:Code} {P E:Type} (L:PD P E) (hnat:∀ Y p ke,L.st Y p ke=(L.m p).bind ke)
 (hl:∀ c'∈loops env0.join c,LoopSim env0.loop (vc par C rf locs n) c':=by refine lp_of ?_ lp_nil;kernel_rfl)
 (hk:(keepB n L.pol&&L.pe.all fun q=>keepB n q.2)=true:=by kernel_rfl)
 (hstep:∀ p,code par glob env0 locs n c (L.sk.fill (L.n p)) (fun ex s=>(prep (peOf L.pe ex) s).bind fun s=>some (ex,s))=L.st _ p (fun e=>some (L.o _ p e Prod.mk)):=by intro _;kernel_rfl)
 (hflat:∀ u,L.n (L.p u)=u:=by intro _;rfl) (ho:∀ Z p e K,L.o Z p e K=K (L.o _ p e Prod.mk).1 (L.o _ p e Prod.mk).2:=by intro _ _ e _;first|rfl|(rcases e with e|e<;>rfl)|(rcases e with e|e|e<;>rfl)|(rcases e with e|e|e|e<;>rfl)|exact nomatch e)
 (hq:∀ X s K,env.loop X (keyOf c) s K=L.q X s K:=by intro _ _ _;kernel_rfl):LoopSim env.loop (vc par C rf locs n) c:=piece_form glob_ok hc hcall hl L hk hnat hstep hflat ho hq
theorem rO {env:Env} (hc:SimCall C env.call) {id:Nat} {ks:List Nat} {g:Operand} {ps:Array Tmp} {a b:Code} {P E:Type} (L:PD P E) (hnat:∀ Y p ke,L.st Y p ke=(L.m p).bind ke) (hrf:Tbl.rf id=⟨n,ps.toList,a,b⟩:=by kernel_rfl)
 (hk:(keepB n L.pol&&L.pe.all fun q=>keepB n q.2)=true:=by kernel_rfl)
 (hstep:∀ p,rfRun par glob env id n ks g (L.sk.fill (L.n p)) (fun ex s=>(prep (peOf L.pe ex) s).bind fun s=>some (ex,s))=L.st _ p (fun e=>some (L.o _ p e Prod.mk)):=by intro _;kernel_rfl)
 (hflat:∀ u,L.n (L.p u)=u:=by intro _;rfl) (ho:∀ Z p e K,L.o Z p e K=K (L.o _ p e Prod.mk).1 (L.o _ p e Prod.mk).2:=by intro _ _ e _;first|rfl|(rcases e with e|e<;>rfl)|(rcases e with e|e|e<;>rfl)|(rcases e with e|e|e|e<;>rfl)|exact nomatch e)
 (hq:∀ X s K,env.loop X (keyOf (.rangeFunc g ps a b)) s K=L.q X s K:=by intro _ _ _;kernel_rfl):LoopSim env.loop (vc par C true locs n) (.rangeFunc g ps a b):=range_form glob_ok hc rfl hrf L hk hnat hstep hflat ho hq
end
abbrev kG:Sk:= .cons (.lit cInstr) (.cons (.int .i64) (.cons (.int .i64) (.cons (.int .i64) (.cons (.lit cArray) (.cons (.lit cScalar) (.cons (.lit cArray) (.cons (.lit cItv) .nil)))))))
abbrev kN:Sk:= .cons (.int .i64) (.cons (.int .i64) (.cons (.int .i64) (.cons (.int .i64) (.cons (.int .i64) (.cons (.int .i64) (.cons (.int .i64) (.cons (.int .i64) .nil)))))))
abbrev kM:Sk:= .cons .bool (.cons (.lit cCongr) (.cons (.lit cCongr) .nil))
abbrev kC:Sk:= .cons .bool (.cons (.int .i64) (.cons (.int .i64) .nil))
abbrev kI:Sk:= .cons (.int .i64) (.cons (.int .i64) .nil)
abbrev q3 {A B C Z:Type} (x:A×B×C×Z):A×B×C:=(x.1,x.2.1,x.2.2.1)
abbrev q8 {A B C D E F G H Z:Type} (x:A×B×C×D×E×F×G×H×Z):A×B×C×D×E×F×G×H:=(x.1,x.2.1,x.2.2.1,x.2.2.2.1,x.2.2.2.2.1,x.2.2.2.2.2.1,x.2.2.2.2.2.2.1,x.2.2.2.2.2.2.2.1)
abbrev w3 {A B C:Type} (x:A×B×C):A×B×C×Unit:=(x.1,x.2.1,x.2.2,())
abbrev w4 {A B C D:Type} (x:A×B×C×D):A×B×C×D×Unit:=(x.1,x.2.1,x.2.2.1,x.2.2.2,())
abbrev w8 {A B C D E F G H:Type} (x:A×B×C×D×E×F×G×H):A×B×C×D×E×F×G×H×Unit:=(x.1,x.2.1,x.2.2.1,x.2.2.2.1,x.2.2.2.2.1,x.2.2.2.2.2.1,x.2.2.2.2.2.2.1,x.2.2.2.2.2.2.2,())
end Go.U
namespace Go.U
open Go Go.Proofs
def itoaB (n:Int):ByteArray:=⟨(Lib.itoa n).toArray⟩
def f120_m (a:Int×Int):Option ByteArray:=ask (decide (-9223372036854775808<=a.1)&&decide (a.1<=9223372036854775807)&&decide (a.2=10)) (some (itoaB a.1))
def f66_m (a:ByteArray×ByteArray):Option (Int×ByteArray):=ask (decide (a.2.size+a.1.size<=70368744177664)) (some (nt a.1.size,a.2++a.1))
def f68_m (a:ByteArray):Option ByteArray:=some a
def f120_s:FS (Int×Int) (ByteArray) where
 sk:=⟨(.cons (.int .i64) (.cons (.int .i64) .nil)),[],0⟩
 a:=fun u=>(u.1.1,u.1.2.1)
 n:=fun a=>((a.1,(a.2,())),())
 o:=fun Z a r K=>K (.str r) ⟨[],0⟩
def f120_sp:Spec:=f120_s.sp f120_m
def f66_s:FS (ByteArray×ByteArray) (Int×ByteArray) where
 sk:=⟨(.cons (.ptr 0 0) (.cons .str .nil)),[.bld (.all 1),.byt],0⟩
 a:=fun u=>(u.1.2.1,u.2.2.1)
 n:=fun a=>(((),(a.1,())),((),(a.2,())))
 o:=fun Z a r K=>K (.tup [.int .i64 r.1,.nili]) ⟨[.bld (.all 2),.dead,.byt r.2],0⟩
def f66_sp:Spec:=f66_s.sp f66_m
def f68_s:FS (ByteArray) (ByteArray) where
 sk:=⟨(.cons (.ptr 0 0) .nil),[.bld (.all 1),.byt],0⟩
 a:=fun u=>u.2.2.1
 n:=fun a=>(((),()),((),(a,())))
 o:=fun Z a r K=>K (.str r) ⟨[.bld (.all 1),.dead],0⟩
def f68_sp:Spec:=f68_s.sp f68_m
theorem f120_ok:OK 1 120 f120_sp:=fun k hk=>by
 obtain ⟨j,rfl⟩:∃ j,k=j+1:=⟨k-1,by omega⟩;refine fi_spec (A:=par) (f:=120) rfl fun X args H K out h=> ?_
 obtain ⟨u,hu,h⟩:=Option.bind_eq_some_iff.1 (show (f120_s.sk.take args H).bind _=some out from h);obtain ⟨h1,h2⟩:=SkA.take_fill hu;obtain ⟨⟨n,b,⟨⟩⟩,⟨⟩⟩:=u;have key:∀ n b:Int,(f120_m (n,b)).bind (fun r=>K (.str r) ⟨[],0⟩)=some out->(-9223372036854775808<=n/\n<=9223372036854775807/\b=10)/\K (.str ⟨(Lib.itoa n).toArray⟩) ⟨[],0⟩=some out:=fun n b h'=>by
  simp only [f120_m,ask] at h';by_cases e1: -9223372036854775808<=n<;>by_cases e2:n<=9223372036854775807<;>by_cases e3:b=10<;>simp [e1,e2,e3] at h'
  exact ⟨⟨e1,e2,e3⟩,h'⟩
 exact ⟨n,b,h1.symm,h2.symm,key n b h⟩
theorem f68_ok:OK 1 68 f68_sp:=fun k hk=>by
 obtain ⟨j,rfl⟩:∃ j,k=j+1:=⟨k-1,by omega⟩;refine str_spec (A:=par) (f:=68) rfl fun X args H K out h=> ?_
 obtain ⟨u,hu,h⟩:=Option.bind_eq_some_iff.1 (show (f68_s.sk.take args H).bind _=some out from h);obtain ⟨h1,h2⟩:=SkA.take_fill hu;obtain ⟨⟨⟨⟩,⟨⟩⟩,⟨⟨⟩,s,⟨⟩⟩⟩:=u;exact ⟨s,h1.symm,h2.symm,h⟩
theorem ws_ty:WsTy par #[98,9]:=⟨98,9,rfl,by kernel_rfl,by kernel_rfl,by kernel_rfl,by kernel_rfl,by kernel_rfl⟩
theorem ws_fn:par.fns 66=some Tryz.f66:=by kernel_rfl
theorem ws_ext:par.ext 66=none:=by kernel_rfl
theorem ws_call (k:Nat):WsCall par (k+2) 66 #[98,9]:=fun H x p q v t H2 h2 h3 hw ha h4 h5 h6=>by
 have hcc:V.call par (k+1) (.fn 118 []) [.ptr x 0 0] H=some (.tup [],V.setBl H x (.cells [[.ptr x 0 0,q]] 2 (some (100,2)))):=by
  have e:V.call par (k+1) (.fn 118 []) [.ptr x 0 0] H=V.ccX 100 [.ptr x 0 0] H:=rfl;rw [e];have hx:H.bl[x]?=some (.cells [[p,q]] 2 (some (100,2))):=h2;simp only [V.ccX,hx];rw [if_pos ⟨trivial,hw,by rcases h3 with rfl|rfl<;>simp [V.okp]⟩]
 have ht1:V.elem? par 98=some 5:=by kernel_rfl
 have e97:par.P.underlying 97=some (.pointer 100):=Tryz.underlying97;have hl1:x<H.bl.length:=by obtain ⟨h,_⟩:=List.getElem?_eq_some_iff.1 h2;exact h
 obtain ⟨fd,hfd,hfo,hft⟩:∃ fd,V.field? par 100 1=some fd/\fd.offset=1/\fd.type=98:=by
  have h:(V.field? par 100 1).map (fun fd=>(fd.offset,fd.type))=some (1,98):=by kernel_rfl
  cases h':V.field? par 100 1 with
  |none=>rw [h'] at h;cases h
  |some fd=>rw [h'] at h;simp at h;exact ⟨fd,rfl,h.1,h.2⟩
 have hsz:V.size par 98=some 1:=by kernel_rfl
 have hstr:par.P.underlying 9=some .string:=Tryz.underlying9;have hb:(V.setBl H x (.cells [[.ptr x 0 0,q]] 2 (some (100,2)))).bl[x]?=some (.cells [[.ptr x 0 0,q]] 2 (some (100,2))):=by rw [vset_get,if_pos rfl,if_pos hl1]
 have hloc:par.loc 66=[]:=by kernel_rfl
 have hfrz:par.frz 66=false:=by kernel_rfl
 generalize V.setBl H x (.cells [[.ptr x 0 0,q]] 2 (some (100,2)))=H1 at *
 unfold V.call;rw [ws_ext,ws_fn];have hag:V.isAgg par 98=some false:=by kernel_rfl
 have hcv:v.cells?=some [v]:=by cases v<;>first|rfl|simp [V.AV.isOne] at h6
 have reg:∀ (call:V.Callee) (locs:List Nat) (n:Nat) (os:Array Oper) (s:V.S),V.region par call locs n os false s=V.ops par call locs n os os.toList s:=fun _ _ _ _ _=>rfl
 simp [Tryz.f66,hloc,hfrz,V.code,reg,V.ops,V.guardOn,V.op,V.operand,V.val,V.put,V.get,V.vals,V.argEnv,V.retH,V.ret1,hcc,V.constAV,hfd,hfo,hft,hsz,V.addCell,V.load,V.rowAt,hb,V.part,V.builtin,ha,V.store,h4,h5,hw,h6,hcv,hag,V.splice,hstr,V.results,V.result]
theorem f66_ok:OK 2 66 f66_sp:=fun k hk=>by
 obtain ⟨j,rfl⟩:∃ j,k=j+2:=⟨k-2,by omega⟩;refine ws_spec (A:=par) (k:=j+1) (f:=66) ws_ty (ws_call j) (fun X args H K out h=> ?_) (fun cs vs H=>by unfold V.call;simp only [List.append_nil]);obtain ⟨u,hu,h⟩:=Option.bind_eq_some_iff.1 (show (f66_s.sk.take args H).bind _=some out from h);obtain ⟨h1,h2⟩:=SkA.take_fill hu;obtain ⟨⟨⟨⟩,t,⟨⟩⟩,⟨⟨⟩,s,⟨⟩⟩⟩:=u;have key:∀ s t:ByteArray,(f66_m (t,s)).bind (fun r=>K (.tup [.int .i64 r.1,.nili]) ⟨[.bld (.all 2),.dead,.byt r.2],0⟩)=some out->s.size+t.size<=70368744177664/\K (.tup [.int .i64 t.size,.nili]) ⟨[.bld (.all 2),.dead,.byt (s++t)],0⟩=some out:=fun s t h'=>by
  simp only [f66_m,ask] at h';by_cases e1:s.size+t.size<=70368744177664<;>simp [e1] at h'
  exact ⟨e1,h'⟩
 obtain ⟨k1,k2⟩:=key s t h;exact ⟨s,t,h1.symm,h2.symm,k1,k2⟩
end Go.U
section
set_option maxRecDepth 100000
namespace Go.U
open Go Go.Proofs
noncomputable section
variable {C:V.Callee}
def f77_s:FS (Int) (Bool) where
 sk:=⟨(.cons (.int .i64) .nil),[],0⟩
 a:=fun u=>u.1.1
 n:=fun a=>((a,()),())
 o:=fun Z a r K=>K (.bool r) ⟨[],0⟩
def f77_c {X:Type} (a:Int) (K:Bool->Option X):Option X:=
 cond (decide ((1:Int)<=a))
 (K (decide (a<=(3:Int))))
 (K false)
def f77_m (a:Int):Option (Bool):=f77_c a some
def f77_sp:Spec:=f77_s.sp f77_m
noncomputable def f77_e:Env:=⟨fun k=>[].contains k,callsL [],fun X k s K=>none⟩
theorem f77_ok:OK (1) 77 (f77_s.sp f77_m):=
 fO (d:=0) (env:=f77_e) (callsL_sim cn) (fn:=Tryz.f77) (mc:=@f77_c) (by intros;simp only [f77_m,f77_c,nn])
def f78_s:FS (Int) (Int) where
 sk:=⟨(.cons (.int .i64) .nil),[],0⟩
 a:=fun u=>u.1.1
 n:=fun a=>((a,()),())
 o:=fun Z a r K=>K (.int .i64 r) ⟨[],0⟩
def f78_c {X:Type} (a:Int) (K:Int->Option X):Option X:=
 cond (decide (a=(1:Int)))
 (K (-128))
 (cond (decide (a=(2:Int)))
 (K (-32768))
 (K (-2147483648)))
def f78_m (a:Int):Option (Int):=f78_c a some
def f78_sp:Spec:=f78_s.sp f78_m
noncomputable def f78_e:Env:=⟨fun k=>[].contains k,callsL [],fun X k s K=>none⟩
theorem f78_ok:OK (1) 78 (f78_s.sp f78_m):=
 fO (d:=0) (env:=f78_e) (callsL_sim cn) (fn:=Tryz.f78) (mc:=@f78_c) (by intros;simp only [f78_m,f78_c,nn])
def f79_s:FS (Int) (Int) where
 sk:=⟨(.cons (.int .i64) .nil),[],0⟩
 a:=fun u=>u.1.1
 n:=fun a=>((a,()),())
 o:=fun Z a r K=>K (.int .i64 r) ⟨[],0⟩
def f79_c {X:Type} (a:Int) (K:Int->Option X):Option X:=
 (f78_m a).bind fun r1=>
 K (wi64 ((wi64 ((0:Int)-r1))-(1:Int)))
def f79_m (a:Int):Option (Int):=f79_c a some
def f79_sp:Spec:=f79_s.sp f79_m
noncomputable def f79_e:Env:=⟨fun k=>[].contains k,callsL [(78,f78_sp)],fun X k s K=>none⟩
theorem f79_ok:OK (2) 79 (f79_s.sp f79_m):=
 fO (d:=1) (env:=f79_e) (callsL_sim (cc f78_ok cn)) (fn:=Tryz.f79) (mc:=@f79_c) (by intros;simp only [f79_m,f79_c,nn])
def f37_s:FS (TGraph) (Bool) where
 sk:=⟨(.cons (.agg kG) .nil),[],0⟩
 a:=fun u=>(q8 u.1.1)
 n:=fun a=>(((w8 a),()),())
 o:=fun Z a r K=>K (.bool r) ⟨[],0⟩
def f37_l4:LD ((List TItv)×Int×TGraph) (Int) ((Unit) ⊕ (Unit)) where
 sk:=⟨[(1,.loc 0 0),(52,.v (.lit cItv)),(53,.v (.int .i64)),(54,.v (.int .i64))],[kG],[],0,0⟩
 p:=fun u=>(u.1.1,u.1.2.1,(q8 u.2.1.1))
 t:=fun u=>u.1.2.2.1
 n:=fun p t=>((p.1,(p.2.1,(t,()))),(((w8 p.2.2),()),()))
 st:=fun Y p t ki ke=>cond (decide (t<p.2.1))
  (ask (V.inRange t (List.length p.1)) (cond (decide ((gx p.1 (Int.toNat t) dItv).2<(0:Int)))
  (ke (.inl ()))
  (cond (decide ((62:Int)<(gx p.1 (Int.toNat t) dItv).2))
  (ke (.inl ()))
  (cond (!(decide ((Int.tmod (gx p.1 (Int.toNat t) dItv).2 2)=(0:Int))))
  (ke (.inl ()))
  (ki ((wi64 (t+(1:Int)))))))))
  (ke (.inr (())))
 o:=fun Z p e K=>Sum.elim (fun e=>K .ret ⟨[(2,.v (.bool false))],[],⟨[],0⟩,0⟩) (fun e=>K (.exit 0) ⟨[(1,.loc 0 0)],[[.lit cInstr p.2.2.1,.int .i64 p.2.2.2.1,.int .i64 p.2.2.2.2.1,.int .i64 p.2.2.2.2.2.1,.lit cArray p.2.2.2.2.2.2.1,.lit cScalar p.2.2.2.2.2.2.2.1,.lit cArray p.2.2.2.2.2.2.2.2.1,.lit cItv p.2.2.2.2.2.2.2.2.2]],⟨[],0⟩,0⟩) e
 pol:=⟨[1,52,53,54],[],[],[]⟩
 pe:=[(.ret,⟨[2],[],[],[]⟩),(.exit 0,⟨[1],[],[],[]⟩)]
def f37_l10:LD ((List TArray)×Int×TGraph) (Int) ((Unit) ⊕ (Unit)) where
 sk:=⟨[(1,.loc 0 0),(74,.v (.lit cArray)),(75,.v (.int .i64)),(76,.v (.int .i64))],[kG],[],0,0⟩
 p:=fun u=>(u.1.1,u.1.2.1,(q8 u.2.1.1))
 t:=fun u=>u.1.2.2.1
 n:=fun p t=>((p.1,(p.2.1,(t,()))),(((w8 p.2.2),()),()))
 st:=fun Y p t ki ke=>cond (decide (t<p.2.1))
  (ask (V.inRange t (List.length p.1)) ((f77_m (gx p.1 (Int.toNat t) dArray).2.1).bind fun r1=>
  cond (!r1)
  (ke (.inl ()))
  (cond (decide ((gx p.1 (Int.toNat t) dArray).2.2.2<(gx p.1 (Int.toNat t) dArray).2.2.1))
  (ke (.inl ()))
  ((f78_m (gx p.1 (Int.toNat t) dArray).2.1).bind fun r2=>
  cond (decide ((gx p.1 (Int.toNat t) dArray).2.2.1<r2))
  (ke (.inl ()))
  ((f79_m (gx p.1 (Int.toNat t) dArray).2.1).bind fun r3=>
  cond (decide (r3<(gx p.1 (Int.toNat t) dArray).2.2.2))
  (ke (.inl ()))
  (ki ((wi64 (t+(1:Int))))))))))
  (ke (.inr (())))
 o:=fun Z p e K=>Sum.elim (fun e=>K .ret ⟨[(2,.v (.bool false))],[],⟨[],0⟩,0⟩) (fun e=>K (.exit 2) ⟨[(1,.loc 0 0)],[[.lit cInstr p.2.2.1,.int .i64 p.2.2.2.1,.int .i64 p.2.2.2.2.1,.int .i64 p.2.2.2.2.2.1,.lit cArray p.2.2.2.2.2.2.1,.lit cScalar p.2.2.2.2.2.2.2.1,.lit cArray p.2.2.2.2.2.2.2.2.1,.lit cItv p.2.2.2.2.2.2.2.2.2]],⟨[],0⟩,0⟩) e
 pol:=⟨[1,74,75,76],[],[],[]⟩
 pe:=[(.ret,⟨[2],[],[],[]⟩),(.exit 2,⟨[1],[],[],[]⟩)]
def f37_l16:LD ((List TScalar)×Int×TGraph) (Int) ((Unit) ⊕ (Unit)) where
 sk:=⟨[(1,.loc 0 0),(109,.v (.lit cScalar)),(110,.v (.int .i64)),(111,.v (.int .i64))],[kG],[],0,0⟩
 p:=fun u=>(u.1.1,u.1.2.1,(q8 u.2.1.1))
 t:=fun u=>u.1.2.2.1
 n:=fun p t=>((p.1,(p.2.1,(t,()))),(((w8 p.2.2),()),()))
 st:=fun Y p t ki ke=>cond (decide (t<p.2.1))
  (ask (V.inRange t (List.length p.1)) ((f77_m (gx p.1 (Int.toNat t) dScalar).2.1).bind fun r1=>
  cond (!r1)
  (ke (.inl ()))
  ((f78_m (gx p.1 (Int.toNat t) dScalar).2.1).bind fun r2=>
  cond (decide ((gx p.1 (Int.toNat t) dScalar).2.2<r2))
  (ke (.inl ()))
  ((f79_m (gx p.1 (Int.toNat t) dScalar).2.1).bind fun r3=>
  cond (decide (r3<(gx p.1 (Int.toNat t) dScalar).2.2))
  (ke (.inl ()))
  (ki ((wi64 (t+(1:Int)))))))))
  (ke (.inr (())))
 o:=fun Z p e K=>Sum.elim (fun e=>K .ret ⟨[(2,.v (.bool false))],[],⟨[],0⟩,0⟩) (fun e=>K (.exit 4) ⟨[(1,.loc 0 0)],[[.lit cInstr p.2.2.1,.int .i64 p.2.2.2.1,.int .i64 p.2.2.2.2.1,.int .i64 p.2.2.2.2.2.1,.lit cArray p.2.2.2.2.2.2.1,.lit cScalar p.2.2.2.2.2.2.2.1,.lit cArray p.2.2.2.2.2.2.2.2.1,.lit cItv p.2.2.2.2.2.2.2.2.2]],⟨[],0⟩,0⟩) e
 pol:=⟨[1,109,110,111],[],[],[]⟩
 pe:=[(.ret,⟨[2],[],[],[]⟩),(.exit 4,⟨[1],[],[],[]⟩)]
def f37_l22:LD ((List TArray)×Int) (Int) ((Unit) ⊕ (Unit)) where
 sk:=⟨[(137,.v (.lit cArray)),(138,.v (.int .i64)),(139,.v (.int .i64))],[],[],0,0⟩
 p:=fun u=>(u.1.1,u.1.2.1)
 t:=fun u=>u.1.2.2.1
 n:=fun p t=>((p.1,(p.2,(t,()))),((),()))
 st:=fun Y p t ki ke=>cond (decide (t<p.2))
  (ask (V.inRange t (List.length p.1)) ((f77_m (gx p.1 (Int.toNat t) dArray).2.1).bind fun r1=>
  cond (!r1)
  (ke (.inl ()))
  ((f78_m (gx p.1 (Int.toNat t) dArray).2.1).bind fun r2=>
  cond (decide ((gx p.1 (Int.toNat t) dArray).2.2.2<r2))
  (ke (.inl ()))
  ((f79_m (gx p.1 (Int.toNat t) dArray).2.1).bind fun r3=>
  cond (decide (r3<(gx p.1 (Int.toNat t) dArray).2.2.2))
  (ke (.inl ()))
  (cond (decide ((gx p.1 (Int.toNat t) dArray).2.2.1<(1:Int)))
  (ke (.inl ()))
  (cond (decide ((256:Int)<(gx p.1 (Int.toNat t) dArray).2.2.1))
  (ke (.inl ()))
  (ki ((wi64 (t+(1:Int)))))))))))
  (ke (.inr (())))
 o:=fun Z p e K=>Sum.elim (fun e=>K .ret ⟨[(2,.v (.bool false))],[],⟨[],0⟩,0⟩) (fun e=>K (.exit 6) ⟨[],[],⟨[],0⟩,0⟩) e
 pol:=⟨[137,138,139],[],[],[]⟩
 pe:=[(.ret,⟨[2],[],[],[]⟩),(.exit 6,⟨[],[],[],[]⟩)]
def f37_c {X:Type} (a:TGraph) (K:Bool->Option X):Option X:=
 cond (decide ((32:Int)<(nt (List.length a.2.2.2.2.1))))
 (K false)
 (cond (decide ((64:Int)<(nt (List.length a.2.2.2.2.2.1))))
 (K false)
 (cond (decide ((16:Int)<(nt (List.length a.2.2.2.2.2.2.1))))
 (K false)
 (cond (decide (a.2.2.2.1<(0:Int)))
 (K false)
 (cond (decide ((2147483647:Int)<a.2.2.2.1))
 (K false)
 (cond (decide ((nt (List.length a.2.2.2.2.2.2.2))<(1:Int)))
 (K false)
 (ask (V.inRange 0 (List.length a.2.2.2.2.2.2.2)) (cond (!((decide ((gx a.2.2.2.2.2.2.2 0 dItv).1=(0:Int)))&&((decide ((gx a.2.2.2.2.2.2.2 0 dItv).2=(0:Int)))&&true)))
 (K false)
 ((loopAll (f37_l4.m (a.2.2.2.2.2.2.2,(nt (List.length a.2.2.2.2.2.2.2)),a)) 0).bind fun e1=>
 Sum.elim (fun e2=>K false)
 (fun e3=>(loopAll (f37_l10.m (a.2.2.2.2.1,(nt (List.length a.2.2.2.2.1)),a)) 0).bind fun e4=>
 Sum.elim (fun e5=>K false)
 (fun e6=>(loopAll (f37_l16.m (a.2.2.2.2.2.1,(nt (List.length a.2.2.2.2.2.1)),a)) 0).bind fun e7=>
 Sum.elim (fun e8=>K false)
 (fun e9=>(loopAll (f37_l22.m (a.2.2.2.2.2.2.1,(nt (List.length a.2.2.2.2.2.2.1)))) 0).bind fun e10=>
 Sum.elim (fun e11=>K false)
 (fun e12=>K true) e10) e7) e4) e1))))))))
def f37_m (a:TGraph):Option (Bool):=f37_c a some
def f37_sp:Spec:=f37_s.sp f37_m
noncomputable def f37_e:Env:=⟨fun k=>[].contains k,callsL [(77,f77_sp),(78,f78_sp),(79,f79_sp)],fun X k s K=>if k=4 then f37_l4.q X s K else if k=10 then f37_l10.q X s K else if k=16 then f37_l16.q X s K else if k=22 then f37_l22.q X s K else none⟩
noncomputable def f37_l4_c:Code:=subAt [1,1,0,1,0,0] (bodyOf Tryz.f37)
theorem f37_l4_ok (hc:SimCall C f37_e.call):LoopSim f37_e.loop (vc par C true [1,4,6,8,10] 174) (.loop f37_l4_c):=
 lO hc f37_l4 (by intros;simp only [f37_l4,LD.m,nn])
noncomputable def f37_l10_c:Code:=subAt [1,1,1,0,1,0,0] (bodyOf Tryz.f37)
theorem f37_l10_ok (hc:SimCall C f37_e.call):LoopSim f37_e.loop (vc par C true [1,4,6,8,10] 174) (.loop f37_l10_c):=
 lO hc f37_l10 (by intros;simp only [f37_l10,LD.m,nn])
noncomputable def f37_l16_c:Code:=subAt [1,1,1,1,0,1,0,0] (bodyOf Tryz.f37)
theorem f37_l16_ok (hc:SimCall C f37_e.call):LoopSim f37_e.loop (vc par C true [1,4,6,8,10] 174) (.loop f37_l16_c):=
 lO hc f37_l16 (by intros;simp only [f37_l16,LD.m,nn])
noncomputable def f37_l22_c:Code:=subAt [1,1,1,1,1,0,1,0,0] (bodyOf Tryz.f37)
theorem f37_l22_ok (hc:SimCall C f37_e.call):LoopSim f37_e.loop (vc par C true [1,4,6,8,10] 174) (.loop f37_l22_c):=
 lO hc f37_l22 (by intros;simp only [f37_l22,LD.m,nn])
theorem f37_ok:OK (3) 37 (f37_s.sp f37_m):=
 fO (d:=2) (env:=f37_e) (callsL_sim (cc f77_ok (cc f78_ok (cc f79_ok cn)))) (fn:=Tryz.f37) (mc:=@f37_c) (by intros;simp only [f37_m,f37_c,nn]) (locs:=[1,4,6,8,10]) (hl:=fun hc=>(lp_of (by kernel_rfl) (lp_cons (f37_l4_ok hc) (lp_cons (f37_l10_ok hc) (lp_cons (f37_l16_ok hc) (lp_cons (f37_l22_ok hc) lp_nil))))))
def f38_s:FS (TGraph) ((List Int)×Bool) where
 sk:=⟨(.cons (.agg kG) .nil),[],0⟩
 a:=fun u=>(q8 u.1.1)
 n:=fun a=>(((w8 a),()),())
 o:=fun Z a r K=>K (.tup [.lit (.int .i64) r.1,.bool r.2]) ⟨[],0⟩
def f38_l3:LD ((List TInstr)×Int×TGraph) (Int×Int) (Int) where
 sk:=⟨[(1,.loc 0 0),(4,.v (.int .i64)),(13,.v (.lit cInstr)),(14,.v (.int .i64)),(15,.v (.int .i64))],[kG],[],0,0⟩
 p:=fun u=>(u.1.2.1,u.1.2.2.1,(q8 u.2.1.1))
 t:=fun u=>(u.1.1,u.1.2.2.2.1)
 n:=fun p t=>((t.1,(p.1,(p.2.1,(t.2,())))),(((w8 p.2.2),()),()))
 st:=fun Y p t ki ke=>cond (decide (t.2<p.2.1))
  (ask (V.inRange t.2 (List.length p.1)) (cond (decide ((1:Int)<=(gx p.1 (Int.toNat t.2) dInstr).1))
  (cond (decide ((gx p.1 (Int.toNat t.2) dInstr).1<=(12:Int)))
  (ki ((wi64 (t.1+(1:Int))),(wi64 (t.2+(1:Int)))))
  (ki (t.1,(wi64 (t.2+(1:Int))))))
  (ki (t.1,(wi64 (t.2+(1:Int)))))))
  (ke (t.1))
 o:=fun Z p e K=>K (.exit 0) ⟨[(1,.loc 0 0),(4,.v (.int .i64 e))],[[.lit cInstr p.2.2.1,.int .i64 p.2.2.2.1,.int .i64 p.2.2.2.2.1,.int .i64 p.2.2.2.2.2.1,.lit cArray p.2.2.2.2.2.2.1,.lit cScalar p.2.2.2.2.2.2.2.1,.lit cArray p.2.2.2.2.2.2.2.2.1,.lit cItv p.2.2.2.2.2.2.2.2.2]],⟨[],0⟩,0⟩
 pol:=⟨[1,4,13,14,15],[],[],[]⟩
 pe:=[(.exit 0,⟨[1,4],[],[],[]⟩)]
def f38_l12:LD (Int×Int×TGraph) (Int×(List Int)) ((List Int)) where
 sk:=⟨[(1,.loc 0 0),(4,.v (.int .i64)),(7,.v (.all 0)),(41,.v (.int .i64)),(42,.v (.int .i64))],[kG],[.cells (.int .i64)],0,0⟩
 p:=fun u=>(u.1.1,u.1.2.2.1,(q8 u.2.1.1))
 t:=fun u=>(u.1.2.2.2.1,u.2.2.1)
 n:=fun p t=>((p.1,((),(p.2.1,(t.1,())))),(((w8 p.2.2),()),(t.2,())))
 st:=fun Y p t ki ke=>cond (decide (t.1<p.2.1))
  (ask (V.inRange t.1 (List.length t.2)) (ki ((wi64 (t.1+(1:Int))),(List.set t.2 (Int.toNat t.1) (-1)))))
  (ke (t.2))
 o:=fun Z p e K=>K (.exit 2) ⟨[(1,.loc 0 0),(4,.v (.int .i64 p.1)),(7,.v (.all 0))],[[.lit cInstr p.2.2.1,.int .i64 p.2.2.2.1,.int .i64 p.2.2.2.2.1,.int .i64 p.2.2.2.2.2.1,.lit cArray p.2.2.2.2.2.2.1,.lit cScalar p.2.2.2.2.2.2.2.1,.lit cArray p.2.2.2.2.2.2.2.2.1,.lit cItv p.2.2.2.2.2.2.2.2.2]],⟨[.cells (.int .i64) e],0⟩,0⟩
 pol:=⟨[1,4,7,41,42],[],[],[]⟩
 pe:=[(.exit 2,⟨[1,4,7],[],[],[]⟩)]
def f38_l17:LD (Int×(List TInstr)×Int×TGraph) (Int×(List Int)) ((Unit) ⊕ ((List Int))) where
 sk:=⟨[(1,.loc 0 0),(4,.v (.int .i64)),(7,.v (.all 0)),(50,.v (.lit cInstr)),(51,.v (.int .i64)),(52,.v (.int .i64))],[kG],[.cells (.int .i64)],0,0⟩
 p:=fun u=>(u.1.1,u.1.2.2.1,u.1.2.2.2.1,(q8 u.2.1.1))
 t:=fun u=>(u.1.2.2.2.2.1,u.2.2.1)
 n:=fun p t=>((p.1,((),(p.2.1,(p.2.2.1,(t.1,()))))),(((w8 p.2.2.2),()),(t.2,())))
 st:=fun Y p t ki ke=>cond (decide (t.1<p.2.2.1))
  (ask (V.inRange t.1 (List.length p.2.1)) (cond (decide ((gx p.2.1 (Int.toNat t.1) dInstr).1<(1:Int)))
  (ki ((wi64 (t.1+(1:Int))),t.2))
  (cond (decide ((12:Int)<(gx p.2.1 (Int.toNat t.1) dInstr).1))
  (ki ((wi64 (t.1+(1:Int))),t.2))
  (cond (decide ((wi64 ((gx p.2.1 (Int.toNat t.1) dInstr).2.1-(nt (List.length p.2.2.2.2.2.2.2.2.1))))<(0:Int)))
  (ke (.inl ()))
  (cond (decide (p.1<=(wi64 ((gx p.2.1 (Int.toNat t.1) dInstr).2.1-(nt (List.length p.2.2.2.2.2.2.2.2.1))))))
  (ke (.inl ()))
  (ask (V.inRange (wi64 ((gx p.2.1 (Int.toNat t.1) dInstr).2.1-(nt (List.length p.2.2.2.2.2.2.2.2.1)))) (List.length t.2)) (cond (decide ((0:Int)<=(gx t.2 (Int.toNat (wi64 ((gx p.2.1 (Int.toNat t.1) dInstr).2.1-(nt (List.length p.2.2.2.2.2.2.2.2.1))))) (0:Int))))
  (ke (.inl ()))
  (ask (V.inRange (wi64 ((gx p.2.1 (Int.toNat t.1) dInstr).2.1-(nt (List.length p.2.2.2.2.2.2.2.2.1)))) (List.length t.2)) (ki ((wi64 (t.1+(1:Int))),(List.set t.2 (Int.toNat (wi64 ((gx p.2.1 (Int.toNat t.1) dInstr).2.1-(nt (List.length p.2.2.2.2.2.2.2.2.1))))) t.1)))))))))))
  (ke (.inr (t.2)))
 o:=fun Z p e K=>Sum.elim (fun e=>K .ret ⟨[(2,.v (.nils)),(3,.v (.bool false))],[],⟨[],0⟩,0⟩) (fun e=>K (.exit 4) ⟨[(7,.v (.all 0))],[],⟨[.cells (.int .i64) e],0⟩,0⟩) e
 pol:=⟨[1,4,7,50,51,52],[],[],[]⟩
 pe:=[(.ret,⟨[2,3],[],[],[]⟩),(.exit 4,⟨[7],[],[],[]⟩)]
def f38_c {X:Type} (a:TGraph) (K:(List Int)×Bool->Option X):Option X:=
 (loopAll (f38_l3.m (a.1,(nt (List.length a.1)),a)) (0,0)).bind fun e1=>
 cond (!(decide (a.2.2.1=(wi64 ((nt (List.length a.2.2.2.2.2.1))+e1)))))
 (K ([],false))
 (ask (decide (0<=e1)&&decide (e1<=e1)&&decide (8 * e1<=70368744177664)&&decide (e1<9223372036854775808)) ((loopAll (f38_l12.m (e1,(nt (List.length (List.replicate (Int.toNat e1) (0:Int)))),a)) (0,(List.replicate (Int.toNat e1) (0:Int)))).bind fun e2=>
 (loopAll (f38_l17.m (e1,a.1,(nt (List.length a.1)),a)) (0,e2)).bind fun e3=>
 Sum.elim (fun e4=>K ([],false))
 (fun e5=>K (e5,true)) e3))
def f38_m (a:TGraph):Option ((List Int)×Bool):=f38_c a some
def f38_sp:Spec:=f38_s.sp f38_m
noncomputable def f38_e:Env:=⟨fun k=>[].contains k,callsL [],fun X k s K=>if k=3 then f38_l3.q X s K else if k=12 then f38_l12.q X s K else if k=17 then f38_l17.q X s K else none⟩
noncomputable def f38_l3_c:Code:=subAt [1,1,0,1,0,0] (bodyOf Tryz.f38)
theorem f38_l3_ok (hc:SimCall C f38_e.call):LoopSim f38_e.loop (vc par C true [1,6,10] 91) (.loop f38_l3_c):=
 lO hc f38_l3 (by intros;simp only [f38_l3,LD.m,nn])
noncomputable def f38_l12_c:Code:=subAt [1,1,1,1,1,0,1,0,0] (bodyOf Tryz.f38)
theorem f38_l12_ok (hc:SimCall C f38_e.call):LoopSim f38_e.loop (vc par C true [1,6,10] 91) (.loop f38_l12_c):=
 lO hc f38_l12 (by intros;simp only [f38_l12,LD.m,nn])
noncomputable def f38_l17_c:Code:=subAt [1,1,1,1,1,1,0,1,0,0] (bodyOf Tryz.f38)
theorem f38_l17_ok (hc:SimCall C f38_e.call):LoopSim f38_e.loop (vc par C true [1,6,10] 91) (.loop f38_l17_c):=
 lO hc f38_l17 (by intros;simp only [f38_l17,LD.m,nn])
theorem f38_ok:OK (1) 38 (f38_s.sp f38_m):=
 fO (d:=0) (env:=f38_e) (callsL_sim cn) (fn:=Tryz.f38) (mc:=@f38_c) (by intros;simp only [f38_m,f38_c,nn]) (locs:=[1,6,10]) (sh:=(.tup [(.lit (.int .i64)),.any])) (fz:=true) (hl:=fun hc=>(lp_of (by kernel_rfl) (lp_cons (f38_l3_ok hc) (lp_cons (f38_l12_ok hc) (lp_cons (f38_l17_ok hc) lp_nil)))))
def f39_s:FS (TInstr) (Bool) where
 sk:=⟨(.cons (.agg kN) .nil),[],0⟩
 a:=fun u=>(q8 u.1.1)
 n:=fun a=>(((w8 a),()),())
 o:=fun Z a r K=>K (.bool r) ⟨[],0⟩
def f39_r1:PD (TInstr) (Bool) where
 sk:=⟨[(1,.loc 0 0)],[kN],[],0,0⟩
 p:=fun u=>(q8 u.2.1.1)
 n:=fun p=>((),(((w8 p),()),()))
 st:=fun Y p ke=>cond (decide (p.1=(1:Int)))
  (ke (true))
  (cond (decide (p.1=(16:Int)))
  (ke (true))
  (ke ((decide ((17:Int)<=p.1)))))
 o:=fun Z p e K=>K .normal ⟨[(1,.loc 0 0),(3,.v (.bool e))],[[.int .i64 p.1,.int .i64 p.2.1,.int .i64 p.2.2.1,.int .i64 p.2.2.2.1,.int .i64 p.2.2.2.2.1,.int .i64 p.2.2.2.2.2.1,.int .i64 p.2.2.2.2.2.2.1,.int .i64 p.2.2.2.2.2.2.2]],⟨[],0⟩,0⟩
 pol:=⟨[1],[],[],[]⟩
 pe:=[(.normal,⟨[1,3],[],[],[]⟩)]
def f39_r2:PD (Bool×TInstr) (Bool) where
 sk:=⟨[(1,.loc 0 0),(3,.v .bool)],[kN],[],0,0⟩
 p:=fun u=>(u.1.1,(q8 u.2.1.1))
 n:=fun p=>((p.1,()),(((w8 p.2),()),()))
 st:=fun Y p ke=>cond p.1
  (ke (true))
  (cond (decide (p.2.1=(2:Int)))
  (ke (true))
  (cond (decide (p.2.1=(3:Int)))
  (ke (true))
  (cond (decide (p.2.1=(12:Int)))
  (ke (true))
  (ke ((decide (p.2.1=(13:Int))))))))
 o:=fun Z p e K=>K .normal ⟨[(1,.loc 0 0),(3,.v (.bool p.1)),(4,.v (.bool e))],[[.int .i64 p.2.1,.int .i64 p.2.2.1,.int .i64 p.2.2.2.1,.int .i64 p.2.2.2.2.1,.int .i64 p.2.2.2.2.2.1,.int .i64 p.2.2.2.2.2.2.1,.int .i64 p.2.2.2.2.2.2.2.1,.int .i64 p.2.2.2.2.2.2.2.2]],⟨[],0⟩,0⟩
 pol:=⟨[1,3],[],[],[]⟩
 pe:=[(.normal,⟨[1,3,4],[],[],[]⟩)]
def f39_r3:PD (Bool×Bool×TInstr) (Bool) where
 sk:=⟨[(1,.loc 0 0),(3,.v .bool),(4,.v .bool)],[kN],[],0,0⟩
 p:=fun u=>(u.1.1,u.1.2.1,(q8 u.2.1.1))
 n:=fun p=>((p.1,(p.2.1,())),(((w8 p.2.2),()),()))
 st:=fun Y p ke=>cond (decide (p.2.2.1=(15:Int)))
  (ke (true))
  (cond (decide (p.2.2.1=(16:Int)))
  (ke (true))
  (ke ((decide ((17:Int)<=p.2.2.1)))))
 o:=fun Z p e K=>K .normal ⟨[(1,.loc 0 0),(3,.v (.bool p.1)),(4,.v (.bool p.2.1)),(5,.v (.bool e))],[[.int .i64 p.2.2.1,.int .i64 p.2.2.2.1,.int .i64 p.2.2.2.2.1,.int .i64 p.2.2.2.2.2.1,.int .i64 p.2.2.2.2.2.2.1,.int .i64 p.2.2.2.2.2.2.2.1,.int .i64 p.2.2.2.2.2.2.2.2.1,.int .i64 p.2.2.2.2.2.2.2.2.2]],⟨[],0⟩,0⟩
 pol:=⟨[1,3,4],[],[],[]⟩
 pe:=[(.normal,⟨[1,3,4,5],[],[],[]⟩)]
def f39_r4:PD (Bool×Bool×Bool×TInstr) (Bool) where
 sk:=⟨[(1,.loc 0 0),(3,.v .bool),(4,.v .bool),(5,.v .bool)],[kN],[],0,0⟩
 p:=fun u=>(u.1.1,u.1.2.1,u.1.2.2.1,(q8 u.2.1.1))
 n:=fun p=>((p.1,(p.2.1,(p.2.2.1,()))),(((w8 p.2.2.2),()),()))
 st:=fun Y p ke=>cond (!(decide (p.2.2.2.1=(1:Int))))
  (ke ((!(decide (p.2.2.2.1=(15:Int))))))
  (ke (false))
 o:=fun Z p e K=>K .normal ⟨[(1,.loc 0 0),(3,.v (.bool p.1)),(4,.v (.bool p.2.1)),(5,.v (.bool p.2.2.1)),(6,.v (.bool e))],[[.int .i64 p.2.2.2.1,.int .i64 p.2.2.2.2.1,.int .i64 p.2.2.2.2.2.1,.int .i64 p.2.2.2.2.2.2.1,.int .i64 p.2.2.2.2.2.2.2.1,.int .i64 p.2.2.2.2.2.2.2.2.1,.int .i64 p.2.2.2.2.2.2.2.2.2.1,.int .i64 p.2.2.2.2.2.2.2.2.2.2]],⟨[],0⟩,0⟩
 pol:=⟨[1,3,4,5],[],[],[]⟩
 pe:=[(.normal,⟨[1,3,4,5,6],[],[],[]⟩)]
def f39_r5:PD (Bool×Bool×Bool×Bool×TInstr) (Bool) where
 sk:=⟨[(1,.loc 0 0),(3,.v .bool),(4,.v .bool),(5,.v .bool),(6,.v .bool)],[kN],[],0,0⟩
 p:=fun u=>(u.1.1,u.1.2.1,u.1.2.2.1,u.1.2.2.2.1,(q8 u.2.1.1))
 n:=fun p=>((p.1,(p.2.1,(p.2.2.1,(p.2.2.2.1,())))),(((w8 p.2.2.2.2),()),()))
 st:=fun Y p ke=>cond (!p.1)
  (cond (!p.2.1)
  (cond (!p.2.2.1)
  (cond (!p.2.2.2.1)
  (ke (true))
  (ke ((decide (p.2.2.2.2.2.2.2.2.1=(0:Int))))))
  (cond (decide (p.2.2.2.2.2.1=(0:Int)))
  (cond (!p.2.2.2.1)
  (ke (true))
  (ke ((decide (p.2.2.2.2.2.2.2.2.1=(0:Int))))))
  (ke (false))))
  (cond (decide (p.2.2.2.2.2.2.2.1=(0:Int)))
  (cond (!p.2.2.1)
  (cond (!p.2.2.2.1)
  (ke (true))
  (ke ((decide (p.2.2.2.2.2.2.2.2.1=(0:Int))))))
  (cond (decide (p.2.2.2.2.2.1=(0:Int)))
  (cond (!p.2.2.2.1)
  (ke (true))
  (ke ((decide (p.2.2.2.2.2.2.2.2.1=(0:Int))))))
  (ke (false))))
  (ke (false))))
  (cond (decide (p.2.2.2.2.2.2.1=(0:Int)))
  (cond (!p.2.1)
  (cond (!p.2.2.1)
  (cond (!p.2.2.2.1)
  (ke (true))
  (ke ((decide (p.2.2.2.2.2.2.2.2.1=(0:Int))))))
  (cond (decide (p.2.2.2.2.2.1=(0:Int)))
  (cond (!p.2.2.2.1)
  (ke (true))
  (ke ((decide (p.2.2.2.2.2.2.2.2.1=(0:Int))))))
  (ke (false))))
  (cond (decide (p.2.2.2.2.2.2.2.1=(0:Int)))
  (cond (!p.2.2.1)
  (cond (!p.2.2.2.1)
  (ke (true))
  (ke ((decide (p.2.2.2.2.2.2.2.2.1=(0:Int))))))
  (cond (decide (p.2.2.2.2.2.1=(0:Int)))
  (cond (!p.2.2.2.1)
  (ke (true))
  (ke ((decide (p.2.2.2.2.2.2.2.2.1=(0:Int))))))
  (ke (false))))
  (ke (false))))
  (ke (false)))
 o:=fun Z p e K=>K .normal ⟨[(2,.v (.bool e))],[],⟨[],0⟩,0⟩
 pol:=⟨[1,3,4,5,6],[],[],[]⟩
 pe:=[(.normal,⟨[2],[],[],[]⟩)]
def f39_c {X:Type} (a:TInstr) (K:Bool->Option X):Option X:=
 (f39_r1.m a).bind fun e1=>
 (f39_r2.m (e1,a)).bind fun e2=>
 (f39_r3.m (e1,e2,a)).bind fun e3=>
 (f39_r4.m (e1,e2,e3,a)).bind fun e4=>
 (f39_r5.m (e1,e2,e3,e4,a)).bind fun e5=>
 K e5
def f39_m (a:TInstr):Option (Bool):=f39_c a some
def f39_sp:Spec:=f39_s.sp f39_m
noncomputable def f39_e:Env:=⟨fun k=>[2000001,2000002,2000003,2000004,2000005].contains k,callsL [],fun X k s K=>if k=2000001 then f39_r1.q X s K else if k=2000002 then f39_r2.q X s K else if k=2000003 then f39_r3.q X s K else if k=2000004 then f39_r4.q X s K else if k=2000005 then f39_r5.q X s K else none⟩
noncomputable def f39_r1_c:Code:=subAt [1,0] (bodyOf Tryz.f39)
theorem f39_r1_ok (hc:SimCall C f39_e.call):LoopSim f39_e.loop (vc par C true [1] 96) f39_r1_c:=
 pO (env0:=⟨offJ f39_e.join 2000001,f39_e.call,f39_e.loop⟩) hc rfl f39_r1 (by intros;simp only [f39_r1,PD.m,nn])
noncomputable def f39_r2_c:Code:=subAt [1,1,0] (bodyOf Tryz.f39)
theorem f39_r2_ok (hc:SimCall C f39_e.call):LoopSim f39_e.loop (vc par C true [1] 96) f39_r2_c:=
 pO (env0:=⟨offJ f39_e.join 2000002,f39_e.call,f39_e.loop⟩) hc rfl f39_r2 (by intros;simp only [f39_r2,PD.m,nn])
noncomputable def f39_r3_c:Code:=subAt [1,1,1,0] (bodyOf Tryz.f39)
theorem f39_r3_ok (hc:SimCall C f39_e.call):LoopSim f39_e.loop (vc par C true [1] 96) f39_r3_c:=
 pO (env0:=⟨offJ f39_e.join 2000003,f39_e.call,f39_e.loop⟩) hc rfl f39_r3 (by intros;simp only [f39_r3,PD.m,nn])
noncomputable def f39_r4_c:Code:=subAt [1,1,1,1,0] (bodyOf Tryz.f39)
theorem f39_r4_ok (hc:SimCall C f39_e.call):LoopSim f39_e.loop (vc par C true [1] 96) f39_r4_c:=
 pO (env0:=⟨offJ f39_e.join 2000004,f39_e.call,f39_e.loop⟩) hc rfl f39_r4 (by intros;simp only [f39_r4,PD.m,nn])
noncomputable def f39_r5_c:Code:=subAt [1,1,1,1,1,0] (bodyOf Tryz.f39)
theorem f39_r5_ok (hc:SimCall C f39_e.call):LoopSim f39_e.loop (vc par C true [1] 96) f39_r5_c:=
 pO (env0:=⟨offJ f39_e.join 2000005,f39_e.call,f39_e.loop⟩) hc rfl f39_r5 (by intros;simp only [f39_r5,PD.m,nn])
theorem f39_ok:OK (1) 39 (f39_s.sp f39_m):=
 fO (d:=0) (env:=f39_e) (callsL_sim cn) (fn:=Tryz.f39) (mc:=@f39_c) (by intros;simp only [f39_m,f39_c,nn]) (locs:=[1]) (hl:=fun hc=>(lp_of (by kernel_rfl) (lp_cons (f39_r1_ok hc) (lp_cons (f39_r2_ok hc) (lp_cons (f39_r3_ok hc) (lp_cons (f39_r4_ok hc) (lp_cons (f39_r5_ok hc) lp_nil)))))))
def f80_s:FS (Int×Int) (Bool) where
 sk:=⟨kI,[],0⟩
 a:=fun u=>(u.1.1,u.1.2.1)
 n:=fun a=>((a.1,(a.2,())),())
 o:=fun Z a r K=>K (.bool r) ⟨[],0⟩
def f80_c {X:Type} (a:Int×Int) (K:Bool->Option X):Option X:=
 cond (decide ((0:Int)<=a.1))
 (K (decide (a.1<a.2)))
 (K false)
def f80_m (a:Int×Int):Option (Bool):=f80_c a some
def f80_sp:Spec:=f80_s.sp f80_m
noncomputable def f80_e:Env:=⟨fun k=>[].contains k,callsL [],fun X k s K=>none⟩
theorem f80_ok:OK (1) 80 (f80_s.sp f80_m):=
 fO (d:=0) (env:=f80_e) (callsL_sim cn) (fn:=Tryz.f80) (mc:=@f80_c) (by intros;simp only [f80_m,f80_c,nn])
def f40_s:FS (TInstr×Int) (Bool) where
 sk:=⟨(.cons (.agg kN) (.cons (.int .i64) .nil)),[],0⟩
 a:=fun u=>((q8 u.1.1),u.1.2.1)
 n:=fun a=>(((w8 a.1),(a.2,())),())
 o:=fun Z a r K=>K (.bool r) ⟨[],0⟩
def f40_c {X:Type} (a:TInstr×Int) (K:Bool->Option X):Option X:=
 cond (decide (a.1.1=(15:Int)))
 ((f80_m (a.1.2.2.2.2.2.2.1,a.2)).bind fun r1=>
 cond r1
 ((f80_m (a.1.2.2.2.2.2.2.2,a.2)).bind fun r2=>
 K r2)
 (K false))
 (cond (decide (a.1.1=(21:Int)))
 (cond (decide (a.1.2.2.2.2.2.2.1=(-1:Int)))
 (K (decide (a.1.2.2.2.2.2.2.2=(-1:Int))))
 (K false))
 ((f80_m (a.1.2.2.2.2.2.2.1,a.2)).bind fun r3=>
 cond r3
 (K (decide (a.1.2.2.2.2.2.2.2=(-1:Int))))
 (K false)))
def f40_m (a:TInstr×Int):Option (Bool):=f40_c a some
def f40_sp:Spec:=f40_s.sp f40_m
noncomputable def f40_e:Env:=⟨fun k=>[].contains k,callsL [(80,f80_sp)],fun X k s K=>none⟩
theorem f40_ok:OK (2) 40 (f40_s.sp f40_m):=
 fO (d:=1) (env:=f40_e) (callsL_sim (cc f80_ok cn)) (fn:=Tryz.f40) (mc:=@f40_c) (by intros;simp only [f40_m,f40_c,nn]) (locs:=[2])
def f41_s:FS (TInstr) ((List Int)) where
 sk:=⟨(.cons (.agg kN) .nil),[],0⟩
 a:=fun u=>(q8 u.1.1)
 n:=fun a=>(((w8 a),()),())
 o:=fun Z a r K=>K (.lit (.int .i64) r) ⟨[],0⟩
def f41_c {X:Type} (a:TInstr) (K:(List Int)->Option X):Option X:=
 cond (decide (a.1=(2:Int)))
 (K ([a.2.2.1]:List Int))
 (cond (decide (a.1=(3:Int)))
 (K ([a.2.2.1]:List Int))
 (cond (decide (a.1=(13:Int)))
 (K ([a.2.2.1]:List Int))
 (cond (decide (a.1=(4:Int)))
 (K ([a.2.2.1,a.2.2.2.1]:List Int))
 (cond (decide (a.1=(5:Int)))
 (K ([a.2.2.1,a.2.2.2.1]:List Int))
 (cond (decide (a.1=(6:Int)))
 (K ([a.2.2.1,a.2.2.2.1]:List Int))
 (cond (decide (a.1=(7:Int)))
 (K ([a.2.2.1,a.2.2.2.1]:List Int))
 (cond (decide (a.1=(8:Int)))
 (K ([a.2.2.1,a.2.2.2.1]:List Int))
 (cond (decide (a.1=(9:Int)))
 (K ([a.2.2.1,a.2.2.2.1]:List Int))
 (cond (decide (a.1=(10:Int)))
 (K ([a.2.2.1,a.2.2.2.1]:List Int))
 (cond (decide (a.1=(15:Int)))
 (K ([a.2.2.1,a.2.2.2.1]:List Int))
 (cond (decide (a.1=(11:Int)))
 (K ([a.2.2.2.1]:List Int))
 (cond (decide (a.1=(14:Int)))
 (K ([a.2.1,a.2.2.2.1]:List Int))
 (K [])))))))))))))
def f41_m (a:TInstr):Option ((List Int)):=f41_c a some
def f41_sp:Spec:=f41_s.sp f41_m
noncomputable def f41_e:Env:=⟨fun k=>[].contains k,callsL [],fun X k s K=>none⟩
theorem f41_ok:OK (1) 41 (f41_s.sp f41_m):=
 fO (d:=0) (env:=f41_e) (callsL_sim cn) (fn:=Tryz.f41) (mc:=@f41_c) (by intros;simp only [f41_m,f41_c,nn]) (locs:=[1]) (sh:=(.lit (.int .i64))) (fz:=true)
def f81_s:FS (TGraph×(List Int)×TInstr) (Int×Bool) where
 sk:=⟨(.cons (.agg kG) (.cons (.lit (.int .i64)) (.cons (.agg kN) .nil))),[],0⟩
 a:=fun u=>((q8 u.1.1),u.1.2.1,(q8 u.1.2.2.1))
 n:=fun a=>(((w8 a.1),(a.2.1,((w8 a.2.2),()))),())
 o:=fun Z a r K=>K (.tup [.int .i64 r.1,.bool r.2]) ⟨[],0⟩
def f81_c {X:Type} (a:TGraph×(List Int)×TInstr) (K:(Int×Bool)->Option X):Option X:=
 cond (decide (a.2.2.1=(2:Int)))
 (K (2,true))
 (cond (decide (a.2.2.1=(3:Int)))
 (K (2,true))
 (cond (decide (a.2.2.1=(4:Int)))
 (K (2,true))
 (cond (decide (a.2.2.1=(5:Int)))
 (K (2,true))
 (cond (decide (a.2.2.1=(6:Int)))
 (K (2,true))
 (cond (decide (a.2.2.1=(7:Int)))
 (K (12,true))
 (cond (decide (a.2.2.1=(8:Int)))
 (K (4,true))
 (cond (decide (a.2.2.1=(11:Int)))
 (K (16,true))
 (cond (decide (a.2.2.1=(14:Int)))
 (ask (V.inRange a.2.2.2.2.1 (List.length a.1.2.2.2.2.2.2.1)) (cond (decide ((gx a.1.2.2.2.2.2.2.1 (Int.toNat a.2.2.2.2.1) dArray).2.1=(3:Int)))
 (K (16,true))
 (K (18,true))))
 (cond (decide (a.2.2.1=(21:Int)))
 (K (32,true))
 (cond (decide (a.2.2.1=(13:Int)))
 (ask (V.inRange a.2.2.2.1 (List.length a.1.2.2.2.2.2.1)) (cond (decide ((nt (List.length a.1.2.2.2.2.2.1))<=a.2.2.2.2.1))
 (ask (V.inRange (wi64 (a.2.2.2.2.1-(nt (List.length a.1.2.2.2.2.2.1)))) (List.length a.2.1)) (ask (V.inRange (gx a.2.1 (Int.toNat (wi64 (a.2.2.2.2.1-(nt (List.length a.1.2.2.2.2.2.1))))) (0:Int)) (List.length a.1.1)) (cond (decide ((gx a.1.1 (Int.toNat (gx a.2.1 (Int.toNat (wi64 (a.2.2.2.2.1-(nt (List.length a.1.2.2.2.2.2.1))))) (0:Int))) dInstr).1=(12:Int)))
 (ask (V.inRange (gx a.1.1 (Int.toNat (gx a.2.1 (Int.toNat (wi64 (a.2.2.2.2.1-(nt (List.length a.1.2.2.2.2.2.1))))) (0:Int))) dInstr).2.2.1 (List.length a.1.2.2.2.2.1)) ((f78_m (gx a.1.2.2.2.2.2.1 (Int.toNat a.2.2.2.1) dScalar).2.1).bind fun r1=>
 cond (decide (r1<=(gx a.1.2.2.2.2.1 (Int.toNat (gx a.1.1 (Int.toNat (gx a.2.1 (Int.toNat (wi64 (a.2.2.2.2.1-(nt (List.length a.1.2.2.2.2.2.1))))) (0:Int))) dInstr).2.2.1) dArray).2.2.1))
 (ask (V.inRange (gx a.1.1 (Int.toNat (gx a.2.1 (Int.toNat (wi64 (a.2.2.2.2.1-(nt (List.length a.1.2.2.2.2.2.1))))) (0:Int))) dInstr).2.2.1 (List.length a.1.2.2.2.2.1)) ((f79_m (gx a.1.2.2.2.2.2.1 (Int.toNat a.2.2.2.1) dScalar).2.1).bind fun r2=>
 cond (decide ((gx a.1.2.2.2.2.1 (Int.toNat (gx a.1.1 (Int.toNat (gx a.2.1 (Int.toNat (wi64 (a.2.2.2.2.1-(nt (List.length a.1.2.2.2.2.2.1))))) (0:Int))) dInstr).2.2.1) dArray).2.2.2<=r2))
 (K (2,false))
 (K (2,(!(decide ((gx a.1.2.2.2.2.2.1 (Int.toNat a.2.2.2.1) dScalar).2.1=(3:Int))))))))
 (K (2,(!(decide ((gx a.1.2.2.2.2.2.1 (Int.toNat a.2.2.2.1) dScalar).2.1=(3:Int))))))))
 (K (2,(!(decide ((gx a.1.2.2.2.2.2.1 (Int.toNat a.2.2.2.1) dScalar).2.1=(3:Int)))))))))
 (K (2,(!(decide ((gx a.1.2.2.2.2.2.1 (Int.toNat a.2.2.2.1) dScalar).2.1=(3:Int))))))))
 (K (0,false))))))))))))
def f81_m (a:TGraph×(List Int)×TInstr):Option (Int×Bool):=f81_c a some
def f81_sp:Spec:=f81_s.sp f81_m
noncomputable def f81_e:Env:=⟨fun k=>[].contains k,callsL [(78,f78_sp),(79,f79_sp)],fun X k s K=>none⟩
theorem f81_ok:OK (3) 81 (f81_s.sp f81_m):=
 fO (d:=2) (env:=f81_e) (callsL_sim (cc f78_ok (cc f79_ok cn))) (fn:=Tryz.f81) (mc:=@f81_c) (by intros;simp only [f81_m,f81_c,nn]) (locs:=[3,5,10])
def f42_s:FS (TGraph×(List Int)×TInstr) (Bool) where
 sk:=⟨(.cons (.agg kG) (.cons (.lit (.int .i64)) (.cons (.agg kN) .nil))),[],0⟩
 a:=fun u=>((q8 u.1.1),u.1.2.1,(q8 u.1.2.2.1))
 n:=fun a=>(((w8 a.1),(a.2.1,((w8 a.2.2),()))),())
 o:=fun Z a r K=>K (.bool r) ⟨[],0⟩
def f42_c {X:Type} (a:TGraph×(List Int)×TInstr) (K:Bool->Option X):Option X:=
 (f81_m (a.1,a.2.1,a.2.2)).bind fun r1=>
 cond (decide (a.2.2.2.2.2.2.2.1=(0:Int)))
 (K (!r1.2))
 (cond (!(decide (r1.1=(0:Int))))
 (cond (decide ((0:Int)<a.2.2.2.2.2.2.2.1))
 (cond (decide (a.2.2.2.2.2.2.2.1<(nt (List.length a.1.2.2.2.2.2.2.2))))
 (ask (V.inRange a.2.2.2.2.2.2.2.1 (List.length a.1.2.2.2.2.2.2.2)) (K (decide ((bits_and .i64 (gx a.1.2.2.2.2.2.2.2 (Int.toNat a.2.2.2.2.2.2.2.1) dItv).2 r1.1)=r1.1))))
 (K false))
 (K false))
 (K false))
def f42_m (a:TGraph×(List Int)×TInstr):Option (Bool):=f42_c a some
def f42_sp:Spec:=f42_s.sp f42_m
noncomputable def f42_e:Env:=⟨fun k=>[].contains k,callsL [(81,f81_sp)],fun X k s K=>none⟩
theorem f42_ok:OK (4) 42 (f42_s.sp f42_m):=
 fO (d:=3) (env:=f42_e) (callsL_sim (cc f81_ok cn)) (fn:=Tryz.f42) (mc:=@f42_c) (by intros;simp only [f42_m,f42_c,nn]) (locs:=[3,5])
def f43_s:FS (TGraph) (Bool) where
 sk:=⟨(.cons (.agg kG) .nil),[],0⟩
 a:=fun u=>(q8 u.1.1)
 n:=fun a=>(((w8 a),()),())
 o:=fun Z a r K=>K (.bool r) ⟨[],0⟩
def f43_l12:LD (Bool×Int×TItv×TGraph×(List Bool)) (Bool×Int) (Bool) where
 sk:=⟨[(1,.loc 0 0),(3,.v (.all 0)),(4,.v .bool),(5,.v (.int .i64)),(6,.v .bool),(49,.v (.agg kI)),(50,.v (.int .i64))],[kG],[.cells .bool],0,0⟩
 p:=fun u=>(u.1.2.1,u.1.2.2.1,(u.1.2.2.2.2.1.1,u.1.2.2.2.2.1.2.1),(q8 u.2.1.1),u.2.2.1)
 t:=fun u=>(u.1.2.2.2.1,u.1.2.2.2.2.2.1)
 n:=fun p t=>(((),(p.1,(p.2.1,(t.1,((p.2.2.1.1,(p.2.2.1.2,())),(t.2,())))))),(((w8 p.2.2.2.1),()),(p.2.2.2.2,())))
 st:=fun Y p t ki ke=>cond (decide (t.2<(2:Int)))
  (cond (decide (t.2=(0:Int)))
  (cond t.1
  (cond (decide (p.2.2.1.1<(0:Int)))
  (ki (true,(wi64 (t.2+(1:Int)))))
  (ask (V.inRange p.2.2.1.1 (List.length p.2.2.2.2)) (ki ((gx p.2.2.2.2 (Int.toNat p.2.2.1.1) false),(wi64 (t.2+(1:Int)))))))
  (ki (false,(wi64 (t.2+(1:Int))))))
  (cond (decide (t.2=(1:Int)))
  (cond t.1
  (cond (decide (p.2.2.1.2<(0:Int)))
  (ki (true,(wi64 (t.2+(1:Int)))))
  (ask (V.inRange p.2.2.1.2 (List.length p.2.2.2.2)) (ki ((gx p.2.2.2.2 (Int.toNat p.2.2.1.2) false),(wi64 (t.2+(1:Int)))))))
  (ki (false,(wi64 (t.2+(1:Int))))))
  (none)))
  (ke (t.1))
 o:=fun Z p e K=>K (.exit 4) ⟨[(1,.loc 0 0),(3,.v (.all 0)),(4,.v (.bool p.1)),(5,.v (.int .i64 p.2.1)),(6,.v (.bool e))],[[.lit cInstr p.2.2.2.1.1,.int .i64 p.2.2.2.1.2.1,.int .i64 p.2.2.2.1.2.2.1,.int .i64 p.2.2.2.1.2.2.2.1,.lit cArray p.2.2.2.1.2.2.2.2.1,.lit cScalar p.2.2.2.1.2.2.2.2.2.1,.lit cArray p.2.2.2.1.2.2.2.2.2.2.1,.lit cItv p.2.2.2.1.2.2.2.2.2.2.2]],⟨[.cells .bool p.2.2.2.2],0⟩,0⟩
 pol:=⟨[1,3,4,5,6,49,50],[],[],[]⟩
 pe:=[(.exit 4,⟨[1,3,4,5,6],[],[],[]⟩)]
def f43_l6:LD (TGraph) (Bool×Int×(List Bool)) (Bool×(List Bool)) where
 sk:=⟨[(1,.loc 0 0),(3,.v (.all 0)),(4,.v .bool),(5,.v (.int .i64))],[kG],[.cells .bool],0,0⟩
 p:=fun u=>(q8 u.2.1.1)
 t:=fun u=>(u.1.2.1,u.1.2.2.1,u.2.2.1)
 n:=fun p t=>(((),(t.1,(t.2.1,()))),(((w8 p),()),(t.2.2,())))
 st:=fun Y p t ki ke=>cond (decide ((0:Int)<=t.2.1))
  (ask (V.inRange t.2.1 (List.length t.2.2)) (cond (gx t.2.2 (Int.toNat t.2.1) false)
  (ki (t.1,(wi64 (t.2.1-(1:Int))),t.2.2))
  (ask (V.inRange t.2.1 (List.length p.1)) (cond (!(decide ((gx p.1 (Int.toNat t.2.1) dInstr).1=(17:Int))))
  (ask (V.inRange t.2.1 (List.length p.1)) (cond (!(decide ((gx p.1 (Int.toNat t.2.1) dInstr).1=(20:Int))))
  (ask (V.inRange t.2.1 (List.length p.1)) ((loopAll (f43_l12.m (t.1,t.2.1,(gx p.1 (Int.toNat t.2.1) dInstr).2.2.2.2.2.2,p,t.2.2)) (true,0)).bind fun e1=>
  cond e1
  (ask (V.inRange t.2.1 (List.length t.2.2)) (ki (true,(wi64 (t.2.1-(1:Int))),(List.set t.2.2 (Int.toNat t.2.1) true))))
  (ki (t.1,(wi64 (t.2.1-(1:Int))),t.2.2))))
  (ask (V.inRange t.2.1 (List.length t.2.2)) (ki (true,(wi64 (t.2.1-(1:Int))),(List.set t.2.2 (Int.toNat t.2.1) true))))))
  (ask (V.inRange t.2.1 (List.length t.2.2)) (ki (true,(wi64 (t.2.1-(1:Int))),(List.set t.2.2 (Int.toNat t.2.1) true))))))))
  (ke ((t.1,t.2.2)))
 o:=fun Z p e K=>K (.exit 2) ⟨[(1,.loc 0 0),(3,.v (.all 0)),(4,.v (.bool e.1))],[[.lit cInstr p.1,.int .i64 p.2.1,.int .i64 p.2.2.1,.int .i64 p.2.2.2.1,.lit cArray p.2.2.2.2.1,.lit cScalar p.2.2.2.2.2.1,.lit cArray p.2.2.2.2.2.2.1,.lit cItv p.2.2.2.2.2.2.2]],⟨[.cells .bool e.2],0⟩,0⟩
 pol:=⟨[1,3,4,5],[],[],[]⟩
 pe:=[(.exit 2,⟨[1,3,4],[],[],[]⟩)]
def f43_l3:LD (TGraph) (Bool×(List Bool)) ((List Bool)) where
 sk:=⟨[(1,.loc 0 0),(3,.v (.all 0)),(4,.v .bool)],[kG],[.cells .bool],0,0⟩
 p:=fun u=>(q8 u.2.1.1)
 t:=fun u=>(u.1.2.1,u.2.2.1)
 n:=fun p t=>(((),(t.1,())),(((w8 p),()),(t.2,())))
 st:=fun Y p t ki ke=>cond t.1
  ((loopAll (f43_l6.m p) (false,(wi64 ((nt (List.length p.1))-(1:Int))),t.2)).bind fun e1=>
  ki (e1.1,e1.2))
  (ke (t.2))
 o:=fun Z p e K=>K (.exit 0) ⟨[(3,.v (.all 0))],[],⟨[.cells .bool e],0⟩,0⟩
 pol:=⟨[1,3,4],[],[],[]⟩
 pe:=[(.exit 0,⟨[3],[],[],[]⟩)]
def f43_l20:LD (Int×(List Bool)) (Int) ((Unit) ⊕ (Unit)) where
 sk:=⟨[(69,.v (.all 0)),(70,.v (.int .i64)),(71,.v (.int .i64))],[],[.cells .bool],0,0⟩
 p:=fun u=>(u.1.2.1,u.2.2.1)
 t:=fun u=>u.1.2.2.1
 n:=fun p t=>(((),(p.1,(t,()))),((),(p.2,())))
 st:=fun Y p t ki ke=>cond (decide (t<p.1))
  (ask (V.inRange t (List.length p.2)) (cond (!(gx p.2 (Int.toNat t) false))
  (ke (.inl ()))
  (ki ((wi64 (t+(1:Int)))))))
  (ke (.inr (())))
 o:=fun Z p e K=>Sum.elim (fun e=>K .ret ⟨[(2,.v (.bool false))],[],⟨[],0⟩,0⟩) (fun e=>K (.exit 6) ⟨[],[],⟨[],0⟩,0⟩) e
 pol:=⟨[69,70,71],[],[],[]⟩
 pe:=[(.ret,⟨[2],[],[],[]⟩),(.exit 6,⟨[],[],[],[]⟩)]
def f43_c {X:Type} (a:TGraph) (K:Bool->Option X):Option X:=
 ask (decide (0<=(nt (List.length a.1)))&&decide ((nt (List.length a.1))<=(nt (List.length a.1)))&&decide (1 * (nt (List.length a.1))<=70368744177664)&&decide ((nt (List.length a.1))<9223372036854775808)) ((loopAll (f43_l3.m a) (true,(List.replicate (Int.toNat (nt (List.length a.1))) (false:Bool)))).bind fun e1=>
 (loopAll (f43_l20.m ((nt (List.length e1)),e1)) 0).bind fun e2=>
 Sum.elim (fun e3=>K false)
 (fun e4=>K true) e2)
def f43_m (a:TGraph):Option (Bool):=f43_c a some
def f43_sp:Spec:=f43_s.sp f43_m
noncomputable def f43_e:Env:=⟨fun k=>[].contains k,callsL [],fun X k s K=>if k=12 then f43_l12.q X s K else if k=6 then f43_l6.q X s K else if k=3 then f43_l3.q X s K else if k=20 then f43_l20.q X s K else none⟩
noncomputable def f43_l12_c:Code:=subAt [1,1,0,1,0,0,1,0,1,1,0,0,1,0,0,1,1,0,1,0,1,0,0] (bodyOf Tryz.f43)
theorem f43_l12_ok (hc:SimCall C f43_e.call):LoopSim f43_e.loop (vc par C true [1] 78) (.loop f43_l12_c):=
 lO hc f43_l12 (by intros;simp only [f43_l12,LD.m,nn])
noncomputable def f43_l6_c:Code:=subAt [1,1,0,1,0,0,1,0,1,1,0,0] (bodyOf Tryz.f43)
theorem f43_l6_ok (hc:SimCall C f43_e.call):LoopSim f43_e.loop (vc par C true [1] 78) (.loop f43_l6_c):=
 lO hc f43_l6 (by intros;simp only [f43_l6,LD.m,nn]) (hl:=(lp_of (by kernel_rfl) (lp_cons (f43_l12_ok hc) lp_nil)))
noncomputable def f43_l3_c:Code:=subAt [1,1,0,1,0,0] (bodyOf Tryz.f43)
theorem f43_l3_ok (hc:SimCall C f43_e.call):LoopSim f43_e.loop (vc par C true [1] 78) (.loop f43_l3_c):=
 lO hc f43_l3 (by intros;simp only [f43_l3,LD.m,nn]) (hl:=(lp_of (by kernel_rfl) (lp_cons (f43_l6_ok hc) lp_nil)))
noncomputable def f43_l20_c:Code:=subAt [1,1,1,0,1,0,0] (bodyOf Tryz.f43)
theorem f43_l20_ok (hc:SimCall C f43_e.call):LoopSim f43_e.loop (vc par C true [1] 78) (.loop f43_l20_c):=
 lO hc f43_l20 (by intros;simp only [f43_l20,LD.m,nn])
theorem f43_ok:OK (1) 43 (f43_s.sp f43_m):=
 fO (d:=0) (env:=f43_e) (callsL_sim cn) (fn:=Tryz.f43) (mc:=@f43_c) (by intros;simp only [f43_m,f43_c,nn]) (locs:=[1]) (hl:=fun hc=>(lp_of (by kernel_rfl) (lp_cons (f43_l3_ok hc) (lp_cons (f43_l20_ok hc) lp_nil))))
def f10_s:FS (TGraph) (Bool) where
 sk:=⟨(.cons (.agg kG) .nil),[],0⟩
 a:=fun u=>(q8 u.1.1)
 n:=fun a=>(((w8 a),()),())
 o:=fun Z a r K=>K (.bool r) ⟨[],0⟩
def f10_r1:PD (TGraph) (Bool) where
 sk:=⟨[(1,.loc 0 0)],[kG],[],0,0⟩
 p:=fun u=>(q8 u.2.1.1)
 n:=fun p=>((),(((w8 p),()),()))
 st:=fun Y p ke=>cond (decide ((nt (List.length p.1))<(1:Int)))
  (ke (true))
  (cond (decide ((4096:Int)<(nt (List.length p.1))))
  (ke (true))
  (cond (decide (p.2.1<(0:Int)))
  (ke (true))
  (cond (decide ((nt (List.length p.1))<=p.2.1))
  (ke (true))
  (ask (V.inRange p.2.1 (List.length p.1)) (cond (!(decide ((gx p.1 (Int.toNat p.2.1) dInstr).1=(17:Int))))
  (ke (true))
  ((f37_m p).bind fun r1=>
  ke ((!r1))))))))
 o:=fun Z p e K=>K .normal ⟨[(1,.loc 0 0),(47,.v (.bool e))],[[.lit cInstr p.1,.int .i64 p.2.1,.int .i64 p.2.2.1,.int .i64 p.2.2.2.1,.lit cArray p.2.2.2.2.1,.lit cScalar p.2.2.2.2.2.1,.lit cArray p.2.2.2.2.2.2.1,.lit cItv p.2.2.2.2.2.2.2]],⟨[],0⟩,0⟩
 pol:=⟨[1],[],[],[]⟩
 pe:=[(.normal,⟨[1,47],[],[],[]⟩)]
def f10_r9:PD ((List Int)×Int×(List TInstr)×Int×Int×TGraph×TInstr) (Bool) where
 sk:=⟨[(1,.loc 0 0),(3,.v (.lit (.int .i64))),(5,.v (.int .i64)),(6,.loc 1 0),(56,.v (.lit cInstr)),(57,.v (.int .i64)),(58,.v (.int .i64))],[kG,kN],[],0,0⟩
 p:=fun u=>(u.1.1,u.1.2.1,u.1.2.2.1,u.1.2.2.2.1,u.1.2.2.2.2.1,(q8 u.2.1.1),(q8 u.2.1.2.1))
 n:=fun p=>((p.1,(p.2.1,(p.2.2.1,(p.2.2.2.1,(p.2.2.2.2.1,()))))),(((w8 p.2.2.2.2.2.1),((w8 p.2.2.2.2.2.2),())),()))
 st:=fun Y p ke=>cond (decide (p.2.2.2.2.2.2.1<(1:Int)))
  (ke (true))
  (cond (decide ((22:Int)<=p.2.2.2.2.2.2.1))
  (ke (true))
  (cond (decide (p.2.2.2.2.2.2.1=(17:Int)))
  (cond (!(decide (p.2.1=p.2.2.2.2.2.1.2.1)))
  (ke (true))
  ((f39_m p.2.2.2.2.2.2).bind fun r1=>
  cond (!r1)
  (ke (true))
  ((f40_m (p.2.2.2.2.2.2,(nt (List.length p.2.2.2.2.2.1.1)))).bind fun r2=>
  ke ((!r2)))))
  ((f39_m p.2.2.2.2.2.2).bind fun r3=>
  cond (!r3)
  (ke (true))
  ((f40_m (p.2.2.2.2.2.2,(nt (List.length p.2.2.2.2.2.1.1)))).bind fun r4=>
  ke ((!r4))))))
 o:=fun Z p e K=>K .normal ⟨[(1,.loc 0 0),(3,.v (.lit (.int .i64) p.1)),(5,.v (.int .i64 p.2.1)),(6,.loc 1 0),(56,.v (.lit cInstr p.2.2.1)),(57,.v (.int .i64 p.2.2.2.1)),(58,.v (.int .i64 p.2.2.2.2.1)),(94,.v (.bool e))],[[.lit cInstr p.2.2.2.2.2.1.1,.int .i64 p.2.2.2.2.2.1.2.1,.int .i64 p.2.2.2.2.2.1.2.2.1,.int .i64 p.2.2.2.2.2.1.2.2.2.1,.lit cArray p.2.2.2.2.2.1.2.2.2.2.1,.lit cScalar p.2.2.2.2.2.1.2.2.2.2.2.1,.lit cArray p.2.2.2.2.2.1.2.2.2.2.2.2.1,.lit cItv p.2.2.2.2.2.1.2.2.2.2.2.2.2],[.int .i64 p.2.2.2.2.2.2.1,.int .i64 p.2.2.2.2.2.2.2.1,.int .i64 p.2.2.2.2.2.2.2.2.1,.int .i64 p.2.2.2.2.2.2.2.2.2.1,.int .i64 p.2.2.2.2.2.2.2.2.2.2.1,.int .i64 p.2.2.2.2.2.2.2.2.2.2.2.1,.int .i64 p.2.2.2.2.2.2.2.2.2.2.2.2.1,.int .i64 p.2.2.2.2.2.2.2.2.2.2.2.2.2]],⟨[],0⟩,0⟩
 pol:=⟨[1,3,5,6,56,57,58],[],[],[]⟩
 pe:=[(.normal,⟨[1,3,5,6,56,57,58,94],[],[],[]⟩)]
def f10_r14:PD ((List Int)×Int×Int×(List TInstr)×Int×Int×(List Int)×Int×Int×(TGraph×TInstr)) (Bool) where
 sk:=⟨[(1,.loc 0 0),(3,.v (.lit (.int .i64))),(5,.v (.int .i64)),(6,.loc 1 0),(8,.v (.int .i64)),(56,.v (.lit cInstr)),(57,.v (.int .i64)),(58,.v (.int .i64)),(96,.v (.lit (.int .i64))),(97,.v (.int .i64)),(98,.v (.int .i64))],[kG,kN],[],0,0⟩
 p:=fun u=>(u.1.1,u.1.2.1,u.1.2.2.1,u.1.2.2.2.1,u.1.2.2.2.2.1,u.1.2.2.2.2.2.1,u.1.2.2.2.2.2.2.1,u.1.2.2.2.2.2.2.2.1,u.1.2.2.2.2.2.2.2.2.1,((q8 u.2.1.1),(q8 u.2.1.2.1)))
 n:=fun p=>((p.1,(p.2.1,(p.2.2.1,(p.2.2.2.1,(p.2.2.2.2.1,(p.2.2.2.2.2.1,(p.2.2.2.2.2.2.1,(p.2.2.2.2.2.2.2.1,(p.2.2.2.2.2.2.2.2.1,()))))))))),(((w8 p.2.2.2.2.2.2.2.2.2.1),((w8 p.2.2.2.2.2.2.2.2.2.2),())),()))
 st:=fun Y p ke=>cond (decide (p.2.2.1<(0:Int)))
  (ke (true))
  (cond (decide (p.2.2.2.2.2.2.2.2.2.1.2.2.1<=p.2.2.1))
  (ke (true))
  (cond (decide ((nt (List.length p.2.2.2.2.2.2.2.2.2.1.2.2.2.2.2.1))<=p.2.2.1))
  (ask (V.inRange (wi64 (p.2.2.1-(nt (List.length p.2.2.2.2.2.2.2.2.2.1.2.2.2.2.2.1)))) (List.length p.1)) (ke ((decide (p.2.1<=(gx p.1 (Int.toNat (wi64 (p.2.2.1-(nt (List.length p.2.2.2.2.2.2.2.2.2.1.2.2.2.2.2.1))))) (0:Int)))))))
  (ke (false))))
 o:=fun Z p e K=>K .normal ⟨[(1,.loc 0 0),(3,.v (.lit (.int .i64) p.1)),(5,.v (.int .i64 p.2.1)),(6,.loc 1 0),(56,.v (.lit cInstr p.2.2.2.1)),(57,.v (.int .i64 p.2.2.2.2.1)),(58,.v (.int .i64 p.2.2.2.2.2.1)),(96,.v (.lit (.int .i64) p.2.2.2.2.2.2.1)),(97,.v (.int .i64 p.2.2.2.2.2.2.2.1)),(98,.v (.int .i64 p.2.2.2.2.2.2.2.2.1)),(128,.v (.bool e))],[[.lit cInstr p.2.2.2.2.2.2.2.2.2.1.1,.int .i64 p.2.2.2.2.2.2.2.2.2.1.2.1,.int .i64 p.2.2.2.2.2.2.2.2.2.1.2.2.1,.int .i64 p.2.2.2.2.2.2.2.2.2.1.2.2.2.1,.lit cArray p.2.2.2.2.2.2.2.2.2.1.2.2.2.2.1,.lit cScalar p.2.2.2.2.2.2.2.2.2.1.2.2.2.2.2.1,.lit cArray p.2.2.2.2.2.2.2.2.2.1.2.2.2.2.2.2.1,.lit cItv p.2.2.2.2.2.2.2.2.2.1.2.2.2.2.2.2.2],[.int .i64 p.2.2.2.2.2.2.2.2.2.2.1,.int .i64 p.2.2.2.2.2.2.2.2.2.2.2.1,.int .i64 p.2.2.2.2.2.2.2.2.2.2.2.2.1,.int .i64 p.2.2.2.2.2.2.2.2.2.2.2.2.2.1,.int .i64 p.2.2.2.2.2.2.2.2.2.2.2.2.2.2.1,.int .i64 p.2.2.2.2.2.2.2.2.2.2.2.2.2.2.2.1,.int .i64 p.2.2.2.2.2.2.2.2.2.2.2.2.2.2.2.2.1,.int .i64 p.2.2.2.2.2.2.2.2.2.2.2.2.2.2.2.2.2]],⟨[],0⟩,0⟩
 pol:=⟨[1,3,5,6,8,56,57,58,96,97,98],[],[],[]⟩
 pe:=[(.normal,⟨[1,3,5,6,56,57,58,96,97,98,128],[],[],[]⟩)]
def f10_l12:LD ((List Int)×Int×(List TInstr)×Int×Int×(List Int)×Int×TGraph×TInstr) (Int) ((Unit) ⊕ (Unit)) where
 sk:=⟨[(1,.loc 0 0),(3,.v (.lit (.int .i64))),(5,.v (.int .i64)),(6,.loc 1 0),(56,.v (.lit cInstr)),(57,.v (.int .i64)),(58,.v (.int .i64)),(96,.v (.lit (.int .i64))),(97,.v (.int .i64)),(98,.v (.int .i64))],[kG,kN],[],0,0⟩
 p:=fun u=>(u.1.1,u.1.2.1,u.1.2.2.1,u.1.2.2.2.1,u.1.2.2.2.2.1,u.1.2.2.2.2.2.1,u.1.2.2.2.2.2.2.1,(q8 u.2.1.1),(q8 u.2.1.2.1))
 t:=fun u=>u.1.2.2.2.2.2.2.2.1
 n:=fun p t=>((p.1,(p.2.1,(p.2.2.1,(p.2.2.2.1,(p.2.2.2.2.1,(p.2.2.2.2.2.1,(p.2.2.2.2.2.2.1,(t,())))))))),(((w8 p.2.2.2.2.2.2.2.1),((w8 p.2.2.2.2.2.2.2.2),())),()))
 st:=fun Y p t ki ke=>cond (decide (t<p.2.2.2.2.2.2.1))
  (ask (V.inRange t (List.length p.2.2.2.2.2.1)) ((f10_r14.m (p.1,p.2.1,(gx p.2.2.2.2.2.1 (Int.toNat t) (0:Int)),p.2.2.1,p.2.2.2.1,p.2.2.2.2.1,p.2.2.2.2.2.1,p.2.2.2.2.2.2.1,t,p.2.2.2.2.2.2.2)).bind fun e1=>
  cond e1
  (ke (.inl ()))
  (ki ((wi64 (t+(1:Int)))))))
  (ke (.inr (())))
 o:=fun Z p e K=>Sum.elim (fun e=>K .ret ⟨[(2,.v (.bool false))],[],⟨[],0⟩,0⟩) (fun e=>K (.exit 2) ⟨[(1,.loc 0 0),(3,.v (.lit (.int .i64) p.1)),(6,.loc 1 0),(56,.v (.lit cInstr p.2.2.1)),(57,.v (.int .i64 p.2.2.2.1)),(58,.v (.int .i64 p.2.2.2.2.1))],[[.lit cInstr p.2.2.2.2.2.2.2.1.1,.int .i64 p.2.2.2.2.2.2.2.1.2.1,.int .i64 p.2.2.2.2.2.2.2.1.2.2.1,.int .i64 p.2.2.2.2.2.2.2.1.2.2.2.1,.lit cArray p.2.2.2.2.2.2.2.1.2.2.2.2.1,.lit cScalar p.2.2.2.2.2.2.2.1.2.2.2.2.2.1,.lit cArray p.2.2.2.2.2.2.2.1.2.2.2.2.2.2.1,.lit cItv p.2.2.2.2.2.2.2.1.2.2.2.2.2.2.2],[.int .i64 p.2.2.2.2.2.2.2.2.1,.int .i64 p.2.2.2.2.2.2.2.2.2.1,.int .i64 p.2.2.2.2.2.2.2.2.2.2.1,.int .i64 p.2.2.2.2.2.2.2.2.2.2.2.1,.int .i64 p.2.2.2.2.2.2.2.2.2.2.2.2.1,.int .i64 p.2.2.2.2.2.2.2.2.2.2.2.2.2.1,.int .i64 p.2.2.2.2.2.2.2.2.2.2.2.2.2.2.1,.int .i64 p.2.2.2.2.2.2.2.2.2.2.2.2.2.2.2]],⟨[],0⟩,0⟩) e
 pol:=⟨[1,3,5,6,56,57,58,96,97,98],[],[],[]⟩
 pe:=[(.ret,⟨[2],[],[],[]⟩),(.exit 2,⟨[1,3,6,56,57,58],[],[],[]⟩)]
def f10_r17:PD ((List Int)×(List TInstr)×Int×Int×TGraph×TInstr) (Bool) where
 sk:=⟨[(1,.loc 0 0),(3,.v (.lit (.int .i64))),(6,.loc 1 0),(56,.v (.lit cInstr)),(57,.v (.int .i64)),(58,.v (.int .i64))],[kG,kN],[],0,0⟩
 p:=fun u=>(u.1.1,u.1.2.1,u.1.2.2.1,u.1.2.2.2.1,(q8 u.2.1.1),(q8 u.2.1.2.1))
 n:=fun p=>((p.1,(p.2.1,(p.2.2.1,(p.2.2.2.1,())))),(((w8 p.2.2.2.2.1),((w8 p.2.2.2.2.2),())),()))
 st:=fun Y p ke=>cond (decide (p.2.2.2.2.2.1=(11:Int)))
  (ke (true))
  (ke ((decide (p.2.2.2.2.2.1=(14:Int)))))
 o:=fun Z p e K=>K .normal ⟨[(1,.loc 0 0),(3,.v (.lit (.int .i64) p.1)),(6,.loc 1 0),(9,.v (.bool e)),(56,.v (.lit cInstr p.2.1)),(57,.v (.int .i64 p.2.2.1)),(58,.v (.int .i64 p.2.2.2.1))],[[.lit cInstr p.2.2.2.2.1.1,.int .i64 p.2.2.2.2.1.2.1,.int .i64 p.2.2.2.2.1.2.2.1,.int .i64 p.2.2.2.2.1.2.2.2.1,.lit cArray p.2.2.2.2.1.2.2.2.2.1,.lit cScalar p.2.2.2.2.1.2.2.2.2.2.1,.lit cArray p.2.2.2.2.1.2.2.2.2.2.2.1,.lit cItv p.2.2.2.2.1.2.2.2.2.2.2.2],[.int .i64 p.2.2.2.2.2.1,.int .i64 p.2.2.2.2.2.2.1,.int .i64 p.2.2.2.2.2.2.2.1,.int .i64 p.2.2.2.2.2.2.2.2.1,.int .i64 p.2.2.2.2.2.2.2.2.2.1,.int .i64 p.2.2.2.2.2.2.2.2.2.2.1,.int .i64 p.2.2.2.2.2.2.2.2.2.2.2.1,.int .i64 p.2.2.2.2.2.2.2.2.2.2.2.2]],⟨[],0⟩,0⟩
 pol:=⟨[1,3,6,56,57,58],[],[],[]⟩
 pe:=[(.normal,⟨[1,3,6,9,56,57,58],[],[],[]⟩)]
def f10_r18:PD ((List Int)×Bool×(List TInstr)×Int×Int×TGraph×TInstr) (Bool) where
 sk:=⟨[(1,.loc 0 0),(3,.v (.lit (.int .i64))),(6,.loc 1 0),(9,.v .bool),(56,.v (.lit cInstr)),(57,.v (.int .i64)),(58,.v (.int .i64))],[kG,kN],[],0,0⟩
 p:=fun u=>(u.1.1,u.1.2.1,u.1.2.2.1,u.1.2.2.2.1,u.1.2.2.2.2.1,(q8 u.2.1.1),(q8 u.2.1.2.1))
 n:=fun p=>((p.1,(p.2.1,(p.2.2.1,(p.2.2.2.1,(p.2.2.2.2.1,()))))),(((w8 p.2.2.2.2.2.1),((w8 p.2.2.2.2.2.2),())),()))
 st:=fun Y p ke=>cond p.2.1
  (cond (decide (p.2.2.2.2.2.2.2.2.1<(0:Int)))
  (ke (true))
  (cond (decide ((nt (List.length p.2.2.2.2.2.1.2.2.2.2.2.2.1))<=p.2.2.2.2.2.2.2.2.1))
  (ke (true))
  (cond (decide (p.2.2.2.2.2.2.1=(12:Int)))
  (cond (decide (p.2.2.2.2.2.2.2.2.1<(0:Int)))
  (ke (true))
  (cond (decide ((nt (List.length p.2.2.2.2.2.1.2.2.2.2.1))<=p.2.2.2.2.2.2.2.2.1))
  (ke (true))
  (cond (decide (p.2.2.2.2.2.2.1=(13:Int)))
  (cond (decide (p.2.2.2.2.2.2.2.1<(0:Int)))
  (ke (true))
  (ke ((decide ((nt (List.length p.2.2.2.2.2.1.2.2.2.2.2.1))<=p.2.2.2.2.2.2.2.1)))))
  (ke (false)))))
  (cond (decide (p.2.2.2.2.2.2.1=(13:Int)))
  (cond (decide (p.2.2.2.2.2.2.2.1<(0:Int)))
  (ke (true))
  (ke ((decide ((nt (List.length p.2.2.2.2.2.1.2.2.2.2.2.1))<=p.2.2.2.2.2.2.2.1)))))
  (ke (false))))))
  (cond (decide (p.2.2.2.2.2.2.1=(12:Int)))
  (cond (decide (p.2.2.2.2.2.2.2.2.1<(0:Int)))
  (ke (true))
  (cond (decide ((nt (List.length p.2.2.2.2.2.1.2.2.2.2.1))<=p.2.2.2.2.2.2.2.2.1))
  (ke (true))
  (cond (decide (p.2.2.2.2.2.2.1=(13:Int)))
  (cond (decide (p.2.2.2.2.2.2.2.1<(0:Int)))
  (ke (true))
  (ke ((decide ((nt (List.length p.2.2.2.2.2.1.2.2.2.2.2.1))<=p.2.2.2.2.2.2.2.1)))))
  (ke (false)))))
  (cond (decide (p.2.2.2.2.2.2.1=(13:Int)))
  (cond (decide (p.2.2.2.2.2.2.2.1<(0:Int)))
  (ke (true))
  (ke ((decide ((nt (List.length p.2.2.2.2.2.1.2.2.2.2.2.1))<=p.2.2.2.2.2.2.2.1)))))
  (ke (false))))
 o:=fun Z p e K=>K .normal ⟨[(1,.loc 0 0),(3,.v (.lit (.int .i64) p.1)),(6,.loc 1 0),(56,.v (.lit cInstr p.2.2.1)),(57,.v (.int .i64 p.2.2.2.1)),(58,.v (.int .i64 p.2.2.2.2.1)),(187,.v (.bool e))],[[.lit cInstr p.2.2.2.2.2.1.1,.int .i64 p.2.2.2.2.2.1.2.1,.int .i64 p.2.2.2.2.2.1.2.2.1,.int .i64 p.2.2.2.2.2.1.2.2.2.1,.lit cArray p.2.2.2.2.2.1.2.2.2.2.1,.lit cScalar p.2.2.2.2.2.1.2.2.2.2.2.1,.lit cArray p.2.2.2.2.2.1.2.2.2.2.2.2.1,.lit cItv p.2.2.2.2.2.1.2.2.2.2.2.2.2],[.int .i64 p.2.2.2.2.2.2.1,.int .i64 p.2.2.2.2.2.2.2.1,.int .i64 p.2.2.2.2.2.2.2.2.1,.int .i64 p.2.2.2.2.2.2.2.2.2.1,.int .i64 p.2.2.2.2.2.2.2.2.2.2.1,.int .i64 p.2.2.2.2.2.2.2.2.2.2.2.1,.int .i64 p.2.2.2.2.2.2.2.2.2.2.2.2.1,.int .i64 p.2.2.2.2.2.2.2.2.2.2.2.2.2]],⟨[],0⟩,0⟩
 pol:=⟨[1,3,6,9,56,57,58],[],[],[]⟩
 pe:=[(.normal,⟨[1,3,6,56,57,58,187],[],[],[]⟩)]
def f10_r20:PD ((List Int)×(List TInstr)×Int×Int×TGraph×TInstr) (Bool) where
 sk:=⟨[(1,.loc 0 0),(3,.v (.lit (.int .i64))),(6,.loc 1 0),(56,.v (.lit cInstr)),(57,.v (.int .i64)),(58,.v (.int .i64))],[kG,kN],[],0,0⟩
 p:=fun u=>(u.1.1,u.1.2.1,u.1.2.2.1,u.1.2.2.2.1,(q8 u.2.1.1),(q8 u.2.1.2.1))
 n:=fun p=>((p.1,(p.2.1,(p.2.2.1,(p.2.2.2.1,())))),(((w8 p.2.2.2.2.1),((w8 p.2.2.2.2.2),())),()))
 st:=fun Y p ke=>cond (decide (p.2.2.2.2.2.1=(1:Int)))
  (cond (decide (p.2.2.2.2.2.2.2.2.2.1<(-2147483648:Int)))
  (ke (true))
  (cond (decide ((2147483647:Int)<p.2.2.2.2.2.2.2.2.2.1))
  (ke (true))
  (cond (decide (p.2.2.2.2.2.1=(15:Int)))
  (cond (decide (p.2.2.2.2.2.2.2.2.2.1<(14:Int)))
  (ke (true))
  (cond (decide ((19:Int)<p.2.2.2.2.2.2.2.2.2.1))
  (ke (true))
  ((f42_m (p.2.2.2.2.1,p.1,p.2.2.2.2.2)).bind fun r1=>
  ke ((!r1)))))
  ((f42_m (p.2.2.2.2.1,p.1,p.2.2.2.2.2)).bind fun r2=>
  ke ((!r2))))))
  (cond (decide (p.2.2.2.2.2.1=(15:Int)))
  (cond (decide (p.2.2.2.2.2.2.2.2.2.1<(14:Int)))
  (ke (true))
  (cond (decide ((19:Int)<p.2.2.2.2.2.2.2.2.2.1))
  (ke (true))
  ((f42_m (p.2.2.2.2.1,p.1,p.2.2.2.2.2)).bind fun r3=>
  ke ((!r3)))))
  ((f42_m (p.2.2.2.2.1,p.1,p.2.2.2.2.2)).bind fun r4=>
  ke ((!r4))))
 o:=fun Z p e K=>K .normal ⟨[(1,.loc 0 0),(3,.v (.lit (.int .i64) p.1)),(56,.v (.lit cInstr p.2.1)),(57,.v (.int .i64 p.2.2.1)),(58,.v (.int .i64 p.2.2.2.1)),(222,.v (.bool e))],[[.lit cInstr p.2.2.2.2.1.1,.int .i64 p.2.2.2.2.1.2.1,.int .i64 p.2.2.2.2.1.2.2.1,.int .i64 p.2.2.2.2.1.2.2.2.1,.lit cArray p.2.2.2.2.1.2.2.2.2.1,.lit cScalar p.2.2.2.2.1.2.2.2.2.2.1,.lit cArray p.2.2.2.2.1.2.2.2.2.2.2.1,.lit cItv p.2.2.2.2.1.2.2.2.2.2.2.2]],⟨[],0⟩,0⟩
 pol:=⟨[1,3,6,56,57,58],[],[],[]⟩
 pe:=[(.normal,⟨[1,3,56,57,58,222],[],[],[]⟩)]
def f10_l7:LD ((List Int)×(List TInstr)×Int×TGraph) (Int) ((Unit) ⊕ (Unit)) where
 sk:=⟨[(1,.loc 0 0),(3,.v (.lit (.int .i64))),(56,.v (.lit cInstr)),(57,.v (.int .i64)),(58,.v (.int .i64))],[kG],[],0,0⟩
 p:=fun u=>(u.1.1,u.1.2.1,u.1.2.2.1,(q8 u.2.1.1))
 t:=fun u=>u.1.2.2.2.1
 n:=fun p t=>((p.1,(p.2.1,(p.2.2.1,(t,())))),(((w8 p.2.2.2),()),()))
 st:=fun Y p t ki ke=>cond (decide (t<p.2.2.1))
  (ask (V.inRange t (List.length p.2.1)) ((f10_r9.m (p.1,t,p.2.1,p.2.2.1,t,p.2.2.2,(gx p.2.1 (Int.toNat t) dInstr))).bind fun e1=>
  cond e1
  (ke (.inl ()))
  ((f41_m (gx p.2.1 (Int.toNat t) dInstr)).bind fun r2=>
  (loopAll (f10_l12.m (p.1,t,p.2.1,p.2.2.1,t,r2,(nt (List.length r2)),p.2.2.2,(gx p.2.1 (Int.toNat t) dInstr))) 0).bind fun e3=>
  Sum.elim (fun e4=>ke (.inl ()))
  (fun e5=>(f10_r17.m (p.1,p.2.1,p.2.2.1,t,p.2.2.2,(gx p.2.1 (Int.toNat t) dInstr))).bind fun e6=>
  (f10_r18.m (p.1,e6,p.2.1,p.2.2.1,t,p.2.2.2,(gx p.2.1 (Int.toNat t) dInstr))).bind fun e7=>
  cond e7
  (ke (.inl ()))
  ((f10_r20.m (p.1,p.2.1,p.2.2.1,t,p.2.2.2,(gx p.2.1 (Int.toNat t) dInstr))).bind fun e8=>
  cond e8
  (ke (.inl ()))
  (ki ((wi64 (t+(1:Int))))))) e3)))
  (ke (.inr (())))
 o:=fun Z p e K=>Sum.elim (fun e=>K .ret ⟨[(2,.v (.bool false))],[],⟨[],0⟩,0⟩) (fun e=>K (.exit 0) ⟨[(1,.loc 0 0)],[[.lit cInstr p.2.2.2.1,.int .i64 p.2.2.2.2.1,.int .i64 p.2.2.2.2.2.1,.int .i64 p.2.2.2.2.2.2.1,.lit cArray p.2.2.2.2.2.2.2.1,.lit cScalar p.2.2.2.2.2.2.2.2.1,.lit cArray p.2.2.2.2.2.2.2.2.2.1,.lit cItv p.2.2.2.2.2.2.2.2.2.2]],⟨[],0⟩,0⟩) e
 pol:=⟨[1,3,56,57,58],[],[],[]⟩
 pe:=[(.ret,⟨[2],[],[],[]⟩),(.exit 0,⟨[1],[],[],[]⟩)]
def f10_c {X:Type} (a:TGraph) (K:Bool->Option X):Option X:=
 (f10_r1.m a).bind fun e1=>
 cond e1
 (K false)
 ((f38_m a).bind fun r2=>
 cond (!r2.2)
 (K false)
 ((loopAll (f10_l7.m (r2.1,a.1,(nt (List.length a.1)),a)) 0).bind fun e3=>
 Sum.elim (fun e4=>K false)
 (fun e5=>(f43_m a).bind fun r6=>
 K r6) e3))
def f10_m (a:TGraph):Option (Bool):=f10_c a some
def f10_sp:Spec:=f10_s.sp f10_m
noncomputable def f10_e:Env:=⟨fun k=>[2000001,2000009,2000014,2000017,2000018,2000020].contains k,callsL [(37,f37_sp),(38,f38_sp),(39,f39_sp),(40,f40_sp),(41,f41_sp),(42,f42_sp),(43,f43_sp)],fun X k s K=>if k=2000001 then f10_r1.q X s K else if k=2000009 then f10_r9.q X s K else if k=2000014 then f10_r14.q X s K else if k=12 then f10_l12.q X s K else if k=2000017 then f10_r17.q X s K else if k=2000018 then f10_r18.q X s K else if k=2000020 then f10_r20.q X s K else if k=7 then f10_l7.q X s K else none⟩
noncomputable def f10_r1_c:Code:=subAt [1,0,0] (bodyOf Tryz.f10)
theorem f10_r1_ok (hc:SimCall C f10_e.call):LoopSim f10_e.loop (vc par C true [1,6] 226) f10_r1_c:=
 pO (env0:=⟨offJ f10_e.join 2000001,f10_e.call,f10_e.loop⟩) hc rfl f10_r1 (by intros;simp only [f10_r1,PD.m,nn])
noncomputable def f10_r9_c:Code:=subAt [1,1,1,1,0,1,0,0,1,1,0,0,1,0,0] (bodyOf Tryz.f10)
theorem f10_r9_ok (hc:SimCall C f10_e.call):LoopSim f10_e.loop (vc par C true [1,6] 226) f10_r9_c:=
 pO (env0:=⟨offJ f10_e.join 2000009,f10_e.call,f10_e.loop⟩) hc rfl f10_r9 (by intros;simp only [f10_r9,PD.m,nn])
noncomputable def f10_r14_c:Code:=subAt [1,1,1,1,0,1,0,0,1,1,0,0,1,1,0,1,0,0,1,1,0,0,1,0] (bodyOf Tryz.f10)
theorem f10_r14_ok (hc:SimCall C f10_e.call):LoopSim f10_e.loop (vc par C true [1,6] 226) f10_r14_c:=
 pO (env0:=⟨offJ f10_e.join 2000014,f10_e.call,f10_e.loop⟩) hc rfl f10_r14 (by intros;simp only [f10_r14,PD.m,nn])
noncomputable def f10_l12_c:Code:=subAt [1,1,1,1,0,1,0,0,1,1,0,0,1,1,0,1,0,0] (bodyOf Tryz.f10)
theorem f10_l12_ok (hc:SimCall C f10_e.call):LoopSim f10_e.loop (vc par C true [1,6] 226) (.loop f10_l12_c):=
 lO hc f10_l12 (by intros;simp only [f10_l12,LD.m,nn]) (hl:=(lp_of (by kernel_rfl) (lp_cons (f10_r14_ok hc) lp_nil)))
noncomputable def f10_r17_c:Code:=subAt [1,1,1,1,0,1,0,0,1,1,0,0,1,1,1,0] (bodyOf Tryz.f10)
theorem f10_r17_ok (hc:SimCall C f10_e.call):LoopSim f10_e.loop (vc par C true [1,6] 226) f10_r17_c:=
 pO (env0:=⟨offJ f10_e.join 2000017,f10_e.call,f10_e.loop⟩) hc rfl f10_r17 (by intros;simp only [f10_r17,PD.m,nn])
noncomputable def f10_r18_c:Code:=subAt [1,1,1,1,0,1,0,0,1,1,0,0,1,1,1,1,0,0] (bodyOf Tryz.f10)
theorem f10_r18_ok (hc:SimCall C f10_e.call):LoopSim f10_e.loop (vc par C true [1,6] 226) f10_r18_c:=
 pO (env0:=⟨offJ f10_e.join 2000018,f10_e.call,f10_e.loop⟩) hc rfl f10_r18 (by intros;simp only [f10_r18,PD.m,nn])
noncomputable def f10_r20_c:Code:=subAt [1,1,1,1,0,1,0,0,1,1,0,0,1,1,1,1,1,0] (bodyOf Tryz.f10)
theorem f10_r20_ok (hc:SimCall C f10_e.call):LoopSim f10_e.loop (vc par C true [1,6] 226) f10_r20_c:=
 pO (env0:=⟨offJ f10_e.join 2000020,f10_e.call,f10_e.loop⟩) hc rfl f10_r20 (by intros;simp only [f10_r20,PD.m,nn])
noncomputable def f10_l7_c:Code:=subAt [1,1,1,1,0,1,0,0] (bodyOf Tryz.f10)
theorem f10_l7_ok (hc:SimCall C f10_e.call):LoopSim f10_e.loop (vc par C true [1,6] 226) (.loop f10_l7_c):=
 lO hc f10_l7 (by intros;simp only [f10_l7,LD.m,nn]) (hl:=(lp_of (by kernel_rfl) (lp_cons (f10_r9_ok hc) (lp_cons (f10_l12_ok hc) (lp_cons (f10_r17_ok hc) (lp_cons (f10_r18_ok hc) (lp_cons (f10_r20_ok hc) lp_nil)))))))
theorem f10_ok:OK (5) 10 (f10_s.sp f10_m):=
 fO (d:=4) (env:=f10_e) (callsL_sim (cc f37_ok (cc f38_ok (cc f39_ok (cc f40_ok (cc f41_ok (cc f42_ok (cc f43_ok cn)))))))) (fn:=Tryz.f10) (mc:=@f10_c) (by intros;simp only [f10_m,f10_c,nn]) (locs:=[1,6]) (hl:=fun hc=>(lp_of (by kernel_rfl) (lp_cons (f10_r1_ok hc) (lp_cons (f10_l7_ok hc) lp_nil))))
end
end Go.U
end
