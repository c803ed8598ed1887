/-
  ModuloSolves: whatever the law's function is handed, it returns true, and its arguments read behind the call as they read before.
  Conditions: the package-level variables that the row lists hold what the program's own text lays into them (the card ties that to the text); the strings and slices that come in are no larger than a process can hold (the form's own reach).
-/
import Derived.Test.YtcbcifeaalkdfaaGreatDoorD8
import Derived.Test.YtcbcifeaalkdfaaGreatDoorD5
import Derived.Test.YtcbcifeaalkdfaaGreatDoorB4
import Derived.Test.YtcbcifeaalkdfaaGreatDoorD1
import Derived.Test.YtcbcifeaalkdfaaGreatDoorCards
import Derived.Test.YtcbcifeaalkdfaaGreatDoorTie
import Derived.WalkKit
import Derived.ProofKit
import Derived.OpenShut
import Derived.Deep.DeepHandedRow
import Derived.Lib.LaidTab
set_option linter.unusedVariables false
open List renaming all_eq_true→ec
open Option.some renaming inj→fA
set_option maxRecDepth 100000
namespace Go.U
open Go Go.Proofs
theorem IX(H:Type)(Pn:TypeId×Value->H)(W:World)(base:Nat)(args:Array Value)(ds gs:List (DataW H))(before:List MemPlace)
  (PL:∀(j:Nat)t v,Tryz.f5.params[j]?=some t->args[j]?=some v->Value.okWide Tryz.prog W .any base t v)
  (hW:DataW.Whole Pn Tryz.prog Tryz.f5.params.toList YtcbcifeaalkdfaaGreatDoor.Rows.moduloSolvesSpec.vars false W args.toList ds gs before) (hZ:(DataW.weightsEach Tryz.prog (Tryz.f5.params.toList++(OpenSpec.ofChange YtcbcifeaalkdfaaGreatDoor.Rows.moduloSolvesSpec).bare.plain.varTypes Tryz.prog) (ds++gs)).all (· <=reachBytes)=true) (hL:laidMetH Tryz.prog YtcbcifeaalkdfaaGreatDoor.Rows.moduloSolvesRow.laid W):
  Calls Tryz.prog 5 args W λe W'=>∃v,e= .returned v/\YtcbcifeaalkdfaaGreatDoor.Rows.moduloSolvesSpec.post Pn Tryz.prog Tryz.f5 false true false false W args v W':=by
 obtain⟨p,q,hA,hV,rfl,_,_⟩:=id hW;have hg:gs=[]:=by
  cases gs with
  |nil=>rfl
  |cons d gs=>exact hV.elim
 subst hg;have hp:Tryz.f5.params= #[28,44]:=by kernel_rfl
 have hA':=hA;rw[hp]at hA' PL;have Co:∀b∈DataW.weightsEach Tryz.prog [28,44] ds,b<=reachBytes:=by
  rw[hp,List.append_nil]at hZ;have e:(OpenSpec.ofChange YtcbcifeaalkdfaaGreatDoor.Rows.moduloSolvesSpec).bare.plain.varTypes Tryz.prog=[]:=by kernel_rfl
  rw[e]at hZ;intro b hb
  simpa using ec.1 hZ b hb
 have hq:∀d∈ds,True:=λ_ _=>trivial
 have hD:=T7 (H:=H);obtain⟨v0,vs0,d0,ds0,p0,q0,ha0,rfl,t0,r0⟩:=LG hA';obtain⟨v1,vs1,d1,ds1,p1,q1,rfl,rfl,t1,r1⟩:=LG r0;obtain⟨rfl,rfl⟩:=VY r1;obtain⟨w0,Co,hq⟩:=VK (Q:=λ_=>True) Co hq;obtain⟨w1,Co,hq⟩:=VK (Q:=λ_=>True) Co hq;obtain rfl:args= #[v0,v1]:=by cases args;simp_all
 obtain⟨x0,h0,k0⟩:=MG hD (d:=16) (c:=gh) (by kernel_rfl) t0 w0;obtain⟨x1,h1,k1⟩:=MG hD (d:=16) (c:= .slice Rc) (by kernel_rfl) t1 w1;have e0:=uak k0 (by decide);rw[kaf (show Tryz.prog.underlying 44=some (.slice 31)by kernel_rfl) (PL 1 44 v1 rfl rfl)]at k1;generalize v0.cells.toList=cs at k0 e0;subst e0;refine(kak h0 h1 (F_ hL) k0 k1).mono ?_
 rintro e W' ⟨rfl,hS⟩
 refine⟨_,rfl,tV rfl hW hS (tb:=4) (by kernel_rfl) (by kernel_rfl) rfl λt ht=> ?_⟩;rw[hp]at ht;simp at ht;rcases ht with rfl|rfl
 ·exact⟨16,gh,by kernel_rfl⟩
 ·exact⟨16,(.slice Rc),by kernel_rfl⟩
noncomputable def Wy(os:Os):World:=
 { World.holding Tryz.prog os ⟨#[],#[],[]⟩with heap:=(((((World.holding Tryz.prog os ⟨#[],#[],[]⟩).heap.modify 1 λ
  | .cells _ t frozen=> .cells #[.int .u64 1,.int .u64 10,.int .u64 100,.int .u64 1000,.int .u64 10000,.int .u64 100000,.int .u64 1000000,.int .u64 10000000,.int .u64 100000000,.int .u64 1000000000,.int .u64 10000000000,.int .u64 100000000000,.int .u64 1000000000000,.int .u64 10000000000000,.int .u64 100000000000000,.int .u64 1000000000000000,.int .u64 10000000000000000,.int .u64 100000000000000000,.int .u64 1000000000000000000,.int .u64 10000000000000000000] t frozen
  |o=>o).modify 4 λ
  | .cells _ t frozen=> .cells #[.int .u8 0,.int .u8 1,.int .u8 28,.int .u8 2,.int .u8 29,.int .u8 14,.int .u8 24,.int .u8 3,.int .u8 30,.int .u8 22,.int .u8 20,.int .u8 15,.int .u8 25,.int .u8 17,.int .u8 4,.int .u8 8,.int .u8 31,.int .u8 27,.int .u8 13,.int .u8 23,.int .u8 21,.int .u8 19,.int .u8 16,.int .u8 7,.int .u8 26,.int .u8 12,.int .u8 18,.int .u8 6,.int .u8 11,.int .u8 5,.int .u8 10,.int .u8 9] t frozen
  |o=>o).modify 5 λ
  | .cells _ t frozen=> .cells #[.int .u8 0,.int .u8 1,.int .u8 56,.int .u8 2,.int .u8 57,.int .u8 49,.int .u8 28,.int .u8 3,.int .u8 61,.int .u8 58,.int .u8 42,.int .u8 50,.int .u8 38,.int .u8 29,.int .u8 17,.int .u8 4,.int .u8 62,.int .u8 47,.int .u8 59,.int .u8 36,.int .u8 45,.int .u8 43,.int .u8 51,.int .u8 22,.int .u8 53,.int .u8 39,.int .u8 33,.int .u8 30,.int .u8 24,.int .u8 18,.int .u8 12,.int .u8 5,.int .u8 63,.int .u8 55,.int .u8 48,.int .u8 27,.int .u8 60,.int .u8 41,.int .u8 37,.int .u8 16,.int .u8 46,.int .u8 35,.int .u8 44,.int .u8 21,.int .u8 52,.int .u8 32,.int .u8 23,.int .u8 11,.int .u8 54,.int .u8 26,.int .u8 40,.int .u8 15,.int .u8 34,.int .u8 20,.int .u8 31,.int .u8 10,.int .u8 25,.int .u8 14,.int .u8 19,.int .u8 9,.int .u8 13,.int .u8 8,.int .u8 7,.int .u8 6] t frozen
  |o=>o).modify 0 λ
  | .cells _ t frozen=> .cells #[.string ⟨#[105,110,102]⟩,.string ⟨#[45,105,110,102]⟩] t frozen
  |o=>o) }
def HI:Array Value:= #[.agg #[.slice none 0 0,.int .i64 0,.int .i64 0,.int .i64 0,.slice none 0 0,.slice none 0 0,.slice none 0 0,.slice none 0 0],.slice none 0 0]
theorem own:ownKnob Tryz.prog.godebug=none:=by kernel_rfl
theorem FV(os:Os):laidMet Tryz.prog YtcbcifeaalkdfaaGreatDoor.Rows.moduloSolvesRow.laid ((Wy os).forCall (λ_ _=>0) ⟨#[],HI,[]⟩).memory:=
 laidMet_of_run' 8 (by kernel_rfl) (by kernel_rfl)
theorem aaf(os:Os){H:Type}(enc:TypeId×Value->H):∃places,DataW.whole enc Tryz.prog ((Wy os).forCall (λ_ _=>0) ⟨#[],HI,[]⟩).memory Tryz.f5.params.toList YtcbcifeaalkdfaaGreatDoor.Rows.moduloSolvesSpec.vars false HI.toList 8=
  some ([.agg [.nil,.lit (.int .i64 0),.lit (.int .i64 0),.lit (.int .i64 0),.nil,.nil,.nil,.nil],.nil],[],places):=
 ⟨[],by kernel_rfl⟩
theorem X'(os:Os)(started:os.Started)(H:Type)(enc:TypeId×Value->H)(F:Stop.Interp):
  ReturnsInHanded {} Tryz.checked os 5 .any ((OpenSpec.ofChange YtcbcifeaalkdfaaGreatDoor.Rows.moduloSolvesSpec).preRow enc Tryz.prog Tryz.f5 YtcbcifeaalkdfaaGreatDoor.Rows.moduloSolvesRow.domain false YtcbcifeaalkdfaaGreatDoor.Rows.moduloSolvesRow.laid) (((OpenSpec.ofChange YtcbcifeaalkdfaaGreatDoor.Rows.moduloSolvesSpec).at F).post enc Tryz.prog Tryz.f5 false true false false):=by
 obtain⟨places,hx⟩:=aaf os enc;refine returnsInHanded_of_row (C:=Tryz.checked) (s:=(OpenSpec.ofChange YtcbcifeaalkdfaaGreatDoor.Rows.moduloSolvesSpec)) own started (by kernel_rfl) Tryz.func5
  (witness_row_at (enc:=enc) (C:=Tryz.checked) false (Wy os) HI rfl (by kernel_rfl) (by kernel_rfl) (by kernel_rfl)
   (OpenSpec.preRow_of_cond 8 hx (by kernel_rfl) (λk hk=>by cases hk) (by kernel_rfl) (FV os))) ?_
 intro W base args ds gs before PL hW _ _ hZ hL _ _;exact IX H enc W base args ds gs before PL hW hZ hL
theorem wal:YtcbcifeaalkdfaaGreatDoor.Rows.ModuloSolvesSaid:=
 OpenClaim.holds_of_cond 5 Tryz.f5 rfl rfl rfl rfl rfl rfl rfl ⟨rfl,rfl,rfl,rfl,rfl⟩ rfl rfl rfl rfl rfl (by kernel_rfl) Tryz.func5 (by kernel_rfl)
  (of_decide_eq_true (by kernel_rfl)) (by unfold Func.isWrapper;first|(rw[if_pos (by decide +kernel)];kernel_rfl)|(rw[if_neg (by decide +kernel)];exact⟨rfl,rfl⟩))
  (λos started H enc _ F=>by rw[OpenClaim.pre_eq_preRow];exact X' os started H enc F)
theorem haf(f:FuncId)(fn:Func)(hf:YtcbcifeaalkdfaaGreatDoor.Tryz.pinned.checked.prog.funcNamed YtcbcifeaalkdfaaGreatDoor.Rows.moduloSolvesRow.func=some f)(BB:YtcbcifeaalkdfaaGreatDoor.Tryz.pinned.checked.prog.funcs[f]?=some fn):
  false=YtcbcifeaalkdfaaGreatDoor.Tryz.pinned.checked.prog.looks []/\∀(j:Nat)t,fn.params[j]?=some t->YtcbcifeaalkdfaaGreatDoor.Tryz.pinned.checked.prog.wantsStandIn t=false:=by
 obtain rfl:f=5:=fA ((show Tryz.prog.funcNamed YtcbcifeaalkdfaaGreatDoor.Rows.moduloSolvesRow.func=some 5 by kernel_rfl).symm.trans hf) |>.symm
 obtain rfl:fn=Tryz.f5:=(fA (Tryz.func5.symm.trans BB)).symm;refine⟨by kernel_rfl,λj t ht=> ?_⟩;have hp:Tryz.f5.params= #[28,44]:=by kernel_rfl
 rw[hp]at ht;have hm:=Array.mem_of_getElem? ht;simp at hm;rcases hm with rfl|rfl
 ·exact(show Tryz.prog.wantsStandIn 28=false by kernel_rfl)
 ·exact(show Tryz.prog.wantsStandIn 44=false by kernel_rfl)
theorem Yao:YtcbcifeaalkdfaaGreatDoor.Rows.ModuloSolvesCardSaid:=
 Claim7.holds_tied_plain_at .later [] _ _ _ _ wal (λ_ h=>by cases h) (by kernel_rfl) (λ_ h=>by cases h) YtcbcifeaalkdfaaGreatDoor.moduloSolves_row_tie rfl ⟨rfl,rfl⟩ (by kernel_rfl) rfl haf (by kernel_rfl)
end Go.U
namespace Go.Proofs.YtcbcifeaalkdfaaGreatDoor
theorem moduloSolves_holds : Rows.ModuloSolvesCardSaid := Go.U.Yao
end Go.Proofs.YtcbcifeaalkdfaaGreatDoor
