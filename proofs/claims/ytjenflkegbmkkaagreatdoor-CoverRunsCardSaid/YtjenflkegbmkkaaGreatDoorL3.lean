/-
  CoverRuns: whatever the law's function is handed, it returns true, and its arguments read behind the call as they read before.
  Conditions: the package-level variables that the row lists hold what the program's own text lays into them (the card ties that to the text); the strings and slices that come in are no larger than a process can hold (the form's own reach).
-/
import Derived.Test.YtjenflkegbmkkaaGreatDoorD12
import Derived.Test.YtjenflkegbmkkaaGreatDoorD7
import Derived.Test.YtjenflkegbmkkaaGreatDoorB4
import Derived.Test.YtjenflkegbmkkaaGreatDoorD1
import Derived.Test.YtjenflkegbmkkaaGreatDoorCards
import Derived.Test.YtjenflkegbmkkaaGreatDoorTie
import Derived.WalkKit
import Derived.ProofKit
import Derived.OpenShut
import Derived.Deep.DeepHandedRow
import Derived.Lib.LaidTab
set_option linter.unusedVariables false
open List renaming append_nil→Nn,all_eq_true→tc
open Nat renaming le_refl→va
open Option.some renaming inj→Ek
set_option maxRecDepth 100000
namespace Go.U
open Go Go.Proofs
theorem Sai(x0:Ga)(x1:(List (List Int)))(x2:Int):M9 UV [EC true yy x0,EC false (.slice (.slice (.int .i64))) x1,EC false (.int .i64) x2] ⟨[],0⟩ (fun r _=>some r)=(CM (x0,x1,x2)).bind fun r=>some (.bool r):=by kernel_rfl
theorem ZT(H:Type)(En:TypeId×Value->H)(W:World)(base:Nat)(args:Array Value)(ds gs:List (DataW H))(before:List MemPlace)
  (pq:∀(j:Nat)t v,Tryz.f3.params[j]?=some t->args[j]?=some v->Value.okWide Tryz.prog W .any base t v)
  (hW:DataW.Whole En Tryz.prog Tryz.f3.params.toList YtjenflkegbmkkaaGreatDoor.Rows.coverRunsSpec.vars false W args.toList ds gs before) (hZ:(DataW.weightsEach Tryz.prog (Tryz.f3.params.toList++(OpenSpec.ofChange YtjenflkegbmkkaaGreatDoor.Rows.coverRunsSpec).bare.plain.varTypes Tryz.prog) (ds++gs)).all (· <=reachBytes)=true) (hL:laidMetH Tryz.prog YtjenflkegbmkkaaGreatDoor.Rows.coverRunsRow.laid W):
  Calls Tryz.prog 3 args W fun e W'=>∃v,e= .returned v/\YtjenflkegbmkkaaGreatDoor.Rows.coverRunsSpec.post En Tryz.prog Tryz.f3 false true false false W args v W':=by
 obtain⟨p,q,hA,hV,rfl,_,_⟩:=id hW;have hg:gs=[]:=by
  cases gs with
  |nil=>rfl
  |cons d gs=>exact hV.elim
 subst hg;have hp:Tryz.f3.params= #[28,29,2]:=by kernel_rfl
 have hA':=hA;rw[hp]at hA' pq;have Gm:∀b∈DataW.weightsEach Tryz.prog [28,29,2] ds,b<=reachBytes:=by
  rw[hp,Nn]at hZ;have e:(OpenSpec.ofChange YtjenflkegbmkkaaGreatDoor.Rows.coverRunsSpec).bare.plain.varTypes Tryz.prog=[]:=by kernel_rfl
  rw[e]at hZ;intro b hb
  simpa using tc.1 hZ b hb
 have hq:∀d∈ds,True:=fun _ _=>trivial
 have hD:=I0 (H:=H);obtain⟨v0,vs0,d0,ds0,p0,q0,ha0,rfl,t0,r0⟩:=Ax hA';obtain⟨v1,vs1,d1,ds1,p1,q1,rfl,rfl,t1,r1⟩:=Ax r0;obtain⟨v2,vs2,d2,ds2,p2,q2,rfl,rfl,t2,r2⟩:=Ax r1;obtain⟨rfl,rfl⟩:=mV r2;obtain⟨w0,Gm,hq⟩:=MA (Q:=fun _=>True) Gm hq;obtain⟨w1,Gm,hq⟩:=MA (Q:=fun _=>True) Gm hq;obtain⟨w2,Gm,hq⟩:=MA (Q:=fun _=>True) Gm hq;obtain rfl:args= #[v0,v1,v2]:=by cases args;simp_all
 obtain⟨x0,h0,a0,ru0,rv0⟩:=lB hD (d:=16) (c:=yy) (by kernel_rfl) (pq 0 28 v0 rfl rfl) t0 w0;obtain⟨x1,h1,a1,ru1,rv1⟩:=lB hD (d:=16) (c:=(.slice (.slice (.int .i64)))) (by kernel_rfl) (pq 1 29 v1 rfl rfl) t1 w1;obtain⟨x2,h2,a2,ru2,rv2⟩:=lB hD (d:=16) (c:=(.int .i64)) (by kernel_rfl) (pq 2 2 v2 rfl rfl) t2 w2;have hr:M9 UV [EC (Wq Tryz.prog 28) yy x0,EC (Wq Tryz.prog 29) (.slice (.slice (.int .i64))) x1,EC (Wq Tryz.prog 2) (.int .i64) x2] ⟨[],0⟩ (fun r _=>some r)=some (.bool true):=by
  have e28:Wq Tryz.prog 28=true:=by kernel_rfl
  have e29:Wq Tryz.prog 29=false:=by kernel_rfl
  have e2:Wq Tryz.prog 2=false:=by kernel_rfl
  rw[e28,e29,e2];exact(Sai x0 x1 x2).trans (by rw[faj x0 x1 x2 h0 h1 h2];rfl)
 refine(sR (A:=par) sW yad TT T6 (f:=3) (fn:=Tryz.f3) (by kernel_rfl) (by kernel_rfl) (kah _ (va _)) (av:=[a0,a1,a2]) (vs:=[v0,v1,v2]) hr
  (fun m=>RL.cons (ru0 m) (RL.cons (ru1 m) (RL.cons (ru2 m) RL.nil))) (HU (y5 hL)) rfl (fun i x v hx hv=> ?_)).mono ?_
 ·match i,hx,hv with
  |0,hx,hv=>simp at hx hv;subst hx;subst hv;exact rv0
  |1,hx,hv=>simp at hx hv;subst hx;subst hv;exact rv1
  |2,hx,hv=>simp at hx hv;subst hx;subst hv;exact rv2
  |i+3,hx,_=>simp at hx
 ·rintro e W' ⟨rfl,hS⟩
  refine⟨_,rfl,fR rfl hW hS (tb:=4) (by kernel_rfl) (by kernel_rfl) rfl fun t ht=> ?_⟩;rw[hp]at ht;simp at ht;rcases ht with rfl|rfl|rfl
  ·exact⟨16,yy,by kernel_rfl⟩
  ·exact⟨16,(.slice (.slice (.int .i64))),by kernel_rfl⟩
  ·exact⟨16,(.int .i64),by kernel_rfl⟩
noncomputable def Kx(os:Os):World:=
 { World.holding Tryz.prog os ⟨#[],#[],[]⟩with heap:=((((World.holding Tryz.prog os ⟨#[],#[],[]⟩).heap.modify 1 fun
  | .cells _ t frozen=> .cells #[.int .u8 0,.int .u8 1,.int .u8 28,.int .u8 2,.int .u8 29,.int .u8 14,.int .u8 24,.int .u8 3,.int .u8 30,.int .u8 22,.int .u8 20,.int .u8 15,.int .u8 25,.int .u8 17,.int .u8 4,.int .u8 8,.int .u8 31,.int .u8 27,.int .u8 13,.int .u8 23,.int .u8 21,.int .u8 19,.int .u8 16,.int .u8 7,.int .u8 26,.int .u8 12,.int .u8 18,.int .u8 6,.int .u8 11,.int .u8 5,.int .u8 10,.int .u8 9] t frozen
  |o=>o).modify 2 fun
  | .cells _ t frozen=> .cells #[.int .u8 0,.int .u8 1,.int .u8 56,.int .u8 2,.int .u8 57,.int .u8 49,.int .u8 28,.int .u8 3,.int .u8 61,.int .u8 58,.int .u8 42,.int .u8 50,.int .u8 38,.int .u8 29,.int .u8 17,.int .u8 4,.int .u8 62,.int .u8 47,.int .u8 59,.int .u8 36,.int .u8 45,.int .u8 43,.int .u8 51,.int .u8 22,.int .u8 53,.int .u8 39,.int .u8 33,.int .u8 30,.int .u8 24,.int .u8 18,.int .u8 12,.int .u8 5,.int .u8 63,.int .u8 55,.int .u8 48,.int .u8 27,.int .u8 60,.int .u8 41,.int .u8 37,.int .u8 16,.int .u8 46,.int .u8 35,.int .u8 44,.int .u8 21,.int .u8 52,.int .u8 32,.int .u8 23,.int .u8 11,.int .u8 54,.int .u8 26,.int .u8 40,.int .u8 15,.int .u8 34,.int .u8 20,.int .u8 31,.int .u8 10,.int .u8 25,.int .u8 14,.int .u8 19,.int .u8 9,.int .u8 13,.int .u8 8,.int .u8 7,.int .u8 6] t frozen
  |o=>o).modify 0 fun
  | .cells _ t frozen=> .cells #[.int .u64 1,.int .u64 10,.int .u64 100,.int .u64 1000,.int .u64 10000,.int .u64 100000,.int .u64 1000000,.int .u64 10000000,.int .u64 100000000,.int .u64 1000000000,.int .u64 10000000000,.int .u64 100000000000,.int .u64 1000000000000,.int .u64 10000000000000,.int .u64 100000000000000,.int .u64 1000000000000000,.int .u64 10000000000000000,.int .u64 100000000000000000,.int .u64 1000000000000000000,.int .u64 10000000000000000000] t frozen
  |o=>o) }
def tG:Array Value:= #[.agg #[.slice none 0 0,.int .i64 0,.int .i64 0,.int .i64 0,.slice none 0 0,.slice none 0 0,.slice none 0 0,.slice none 0 0],.slice none 0 0,.int .i64 0]
theorem own:ownKnob Tryz.prog.godebug=none:=by kernel_rfl
theorem tR(os:Os):laidMet Tryz.prog YtjenflkegbmkkaaGreatDoor.Rows.coverRunsRow.laid ((Kx os).forCall (fun _ _=>0) ⟨#[],tG,[]⟩).memory:=
 laidMet_of_run' 8 (by kernel_rfl) (by kernel_rfl)
theorem J_(os:Os){H:Type}(enc:TypeId×Value->H):∃places,DataW.whole enc Tryz.prog ((Kx os).forCall (fun _ _=>0) ⟨#[],tG,[]⟩).memory Tryz.f3.params.toList YtjenflkegbmkkaaGreatDoor.Rows.coverRunsSpec.vars false tG.toList 8=
  some ([.agg [.nil,.lit (.int .i64 0),.lit (.int .i64 0),.lit (.int .i64 0),.nil,.nil,.nil,.nil],.nil,.lit (.int .i64 0)],[],places):=
 ⟨[],by kernel_rfl⟩
theorem B4(os:Os)(started:os.Started)(H:Type)(enc:TypeId×Value->H)(F:Stop.Interp):
  ReturnsInHanded {} Tryz.checked os 3 .any ((OpenSpec.ofChange YtjenflkegbmkkaaGreatDoor.Rows.coverRunsSpec).preRow enc Tryz.prog Tryz.f3 YtjenflkegbmkkaaGreatDoor.Rows.coverRunsRow.domain false YtjenflkegbmkkaaGreatDoor.Rows.coverRunsRow.laid) (((OpenSpec.ofChange YtjenflkegbmkkaaGreatDoor.Rows.coverRunsSpec).at F).post enc Tryz.prog Tryz.f3 false true false false):=by
 obtain⟨places,hx⟩:=J_ os enc;refine returnsInHanded_of_row (C:=Tryz.checked) (s:=(OpenSpec.ofChange YtjenflkegbmkkaaGreatDoor.Rows.coverRunsSpec)) own started (by kernel_rfl) Tryz.func3
  (witness_row_at (enc:=enc) (C:=Tryz.checked) false (Kx os) tG rfl (by kernel_rfl) (by kernel_rfl) (by kernel_rfl)
   (OpenSpec.preRow_of_cond 8 hx (by kernel_rfl) (fun k hk=>by cases hk) (by kernel_rfl) (tR os))) ?_
 intro W base args ds gs before pq hW _ _ hZ hL _ _;exact ZT H enc W base args ds gs before pq hW hZ hL
theorem Hae:YtjenflkegbmkkaaGreatDoor.Rows.CoverRunsSaid:=
 OpenClaim.holds_of_cond 3 Tryz.f3 rfl rfl rfl rfl rfl rfl rfl ⟨rfl,rfl,rfl,rfl,rfl⟩ rfl rfl rfl rfl rfl (by kernel_rfl) Tryz.func3 (by kernel_rfl)
  (of_decide_eq_true (by kernel_rfl)) (by unfold Func.isWrapper;first|(rw[if_pos (by decide +kernel)];kernel_rfl)|(rw[if_neg (by decide +kernel)];exact⟨rfl,rfl⟩))
  (fun os started H enc _ F=>by rw[OpenClaim.pre_eq_preRow];exact B4 os started H enc F)
theorem N_(f:FuncId)(fn:Func)(hf:YtjenflkegbmkkaaGreatDoor.Tryz.pinned.checked.prog.funcNamed YtjenflkegbmkkaaGreatDoor.Rows.coverRunsRow.func=some f)(Ln:YtjenflkegbmkkaaGreatDoor.Tryz.pinned.checked.prog.funcs[f]?=some fn):
  false=YtjenflkegbmkkaaGreatDoor.Tryz.pinned.checked.prog.looks []/\∀(j:Nat)t,fn.params[j]?=some t->YtjenflkegbmkkaaGreatDoor.Tryz.pinned.checked.prog.wantsStandIn t=false:=by
 obtain rfl:f=3:=Ek ((show Tryz.prog.funcNamed YtjenflkegbmkkaaGreatDoor.Rows.coverRunsRow.func=some 3 by kernel_rfl).symm.trans hf) |>.symm
 obtain rfl:fn=Tryz.f3:=(Ek (Tryz.func3.symm.trans Ln)).symm;refine⟨by kernel_rfl,fun j t ht=> ?_⟩;have hp:Tryz.f3.params= #[28,29,2]:=by kernel_rfl
 rw[hp]at ht;have hm:=Array.mem_of_getElem? ht;simp at hm;rcases hm with rfl|rfl|rfl
 ·exact(show Tryz.prog.wantsStandIn 28=false by kernel_rfl)
 ·exact(show Tryz.prog.wantsStandIn 29=false by kernel_rfl)
 ·exact(show Tryz.prog.wantsStandIn 2=false by kernel_rfl)
theorem Fah:YtjenflkegbmkkaaGreatDoor.Rows.CoverRunsCardSaid:=
 Claim7.holds_tied_plain_at .later [] _ _ _ _ Hae (fun _ h=>by cases h) (by kernel_rfl) (fun _ h=>by cases h) YtjenflkegbmkkaaGreatDoor.coverRuns_row_tie rfl ⟨rfl,rfl⟩ (by kernel_rfl) rfl N_ (by kernel_rfl)
end Go.U
namespace Go.Proofs.YtjenflkegbmkkaaGreatDoor
theorem coverRuns_holds : Rows.CoverRunsCardSaid := Go.U.Fah
end Go.Proofs.YtjenflkegbmkkaaGreatDoor
