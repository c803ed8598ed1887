/-
  CoverHolds: whatever the law's function is handed, it returns true, and its arguments read behind the call as they read before.
  Conditions: the package-level variables that the row lists hold what the program's own text lays into them (the card ties that to the text); the strings and slices that come in are no larger than a process can hold (the form's own reach).
-/
import Derived.Test.YtjenflkegbmkkaaGreatDoorD7
import Derived.Test.YtjenflkegbmkkaaGreatDoorB4
import Derived.Test.YtjenflkegbmkkaaGreatDoorD1
import Derived.Test.YtjenflkegbmkkaaGreatDoorCards
import Derived.Test.YtjenflkegbmkkaaGreatDoorTie
import Derived.WalkKit
import Derived.ProofKit
import Derived.OpenShut
import Derived.Deep.DeepHandedRow
import Derived.Lib.LaidTab
set_option linter.unusedVariables false
set_option maxRecDepth 100000
namespace Go.U
open Go Go.Proofs
theorem run7 (x0:TGraph) (x1:(List Int)) (x2:Int):f7_sp UV [argU true cGraph x0,argU false (.slice (.int .i64)) x1,argU false (.int .i64) x2] ⟨[],0⟩ (fun r _=>some r)=(f7_m (x0,x1,x2)).bind fun r=>some (.bool r):=by kernel_rfl
theorem contract7 (H:Type) (enc':TypeId×Value->H) (W:World) (base:Nat) (args:Array Value) (ds gs:List (DataW H)) (before:List MemPlace)
   (hval:∀ (j:Nat) t v,Tryz.f7.params[j]?=some t->args[j]?=some v->Value.okWide Tryz.prog W .any base t v)
   (hW:DataW.Whole enc' Tryz.prog Tryz.f7.params.toList YtjenflkegbmkkaaGreatDoor.Rows.coverHoldsSpec.vars false W args.toList ds gs before) (hZ:(DataW.weightsEach Tryz.prog (Tryz.f7.params.toList++(OpenSpec.ofChange YtjenflkegbmkkaaGreatDoor.Rows.coverHoldsSpec).bare.plain.varTypes Tryz.prog) (ds++gs)).all (· <=reachBytes)=true) (hL:laidMetH Tryz.prog YtjenflkegbmkkaaGreatDoor.Rows.coverHoldsRow.laid W):
   Calls Tryz.prog 7 args W fun e W'=>∃ v,e= .returned v/\YtjenflkegbmkkaaGreatDoor.Rows.coverHoldsSpec.post enc' Tryz.prog Tryz.f7 false true false false W args v W':=by
 obtain ⟨p,q,hA,hV,rfl,_,_⟩:=id hW;have hg:gs=[]:=by
   cases gs with
   |nil=>rfl
   |cons d gs=>exact hV.elim
 subst hg;have hp:Tryz.f7.params= #[28,50,2]:=by kernel_rfl
 have hA':=hA;rw [hp] at hA' hval;have hwt:∀ b∈DataW.weightsEach Tryz.prog [28,50,2] ds,b<=reachBytes:=by
   rw [hp,List.append_nil] at hZ;have e:(OpenSpec.ofChange YtjenflkegbmkkaaGreatDoor.Rows.coverHoldsSpec).bare.plain.varTypes Tryz.prog=[]:=by kernel_rfl
   rw [e] at hZ;intro b hb
   simpa using List.all_eq_true.1 hZ b hb
 have hq:∀ d∈ds,True:=fun _ _=>trivial
 have hD:=down_all (H:=H);obtain ⟨v0,vs0,d0,ds0,p0,q0,ha0,rfl,t0,r0⟩:=open_cons hA';obtain ⟨v1,vs1,d1,ds1,p1,q1,rfl,rfl,t1,r1⟩:=open_cons r0;obtain ⟨v2,vs2,d2,ds2,p2,q2,rfl,rfl,t2,r2⟩:=open_cons r1;obtain ⟨rfl,rfl⟩:=open_nil r2;obtain ⟨w0,hwt,hq⟩:=wts_cons (Q:=fun _=>True) hwt hq;obtain ⟨w1,hwt,hq⟩:=wts_cons (Q:=fun _=>True) hwt hq;obtain ⟨w2,hwt,hq⟩:=wts_cons (Q:=fun _=>True) hwt hq;obtain rfl:args= #[v0,v1,v2]:=by cases args;simp_all
 obtain ⟨x0,h0,a0,ru0,rv0⟩:=open_arg hD (d:=16) (c:=cGraph) (by kernel_rfl) (hval 0 28 v0 rfl rfl) t0 w0;obtain ⟨x1,h1,a1,ru1,rv1⟩:=open_arg hD (d:=16) (c:=(.slice (.int .i64))) (by kernel_rfl) (hval 1 50 v1 rfl rfl) t1 w1;obtain ⟨x2,h2,a2,ru2,rv2⟩:=open_arg hD (d:=16) (c:=(.int .i64)) (by kernel_rfl) (hval 2 2 v2 rfl rfl) t2 w2;have hr:f7_sp UV [argU (aggB Tryz.prog 28) cGraph x0,argU (aggB Tryz.prog 50) (.slice (.int .i64)) x1,argU (aggB Tryz.prog 2) (.int .i64) x2] ⟨[],0⟩ (fun r _=>some r)=some (.bool true):=by
   have e28:aggB Tryz.prog 28=true:=by kernel_rfl
   have e50:aggB Tryz.prog 50=false:=by kernel_rfl
   have e2:aggB Tryz.prog 2=false:=by kernel_rfl
   rw [e28,e50,e2];exact (run7 x0 x1 x2).trans (by rw [law7 x0 x1 x2 h0 h1 h2];rfl)
 refine (law_calls (A:=par) fns_ok ext_ok ext_quiet draw_ok (f:=7) (fn:=Tryz.f7) (by kernel_rfl) (by kernel_rfl) (f7_ok _ (Nat.le_refl _)) (av:=[a0,a1,a2]) (vs:=[v0,v1,v2]) hr
   (fun m=>RL.cons (ru0 m) (RL.cons (ru1 m) (RL.cons (ru2 m) RL.nil))) (wrel_all (glob_of hL)) rfl (fun i x v hx hv=> ?_)).mono ?_
 · match i,hx,hv with
   |0,hx,hv=>simp at hx hv;subst hx;subst hv;exact rv0
   |1,hx,hv=>simp at hx hv;subst hx;subst hv;exact rv1
   |2,hx,hv=>simp at hx hv;subst hx;subst hv;exact rv2
   |i+3,hx,_=>simp at hx
 · rintro e W' ⟨rfl,hS⟩
   refine ⟨_,rfl,post_told rfl hW hS (tb:=4) (by kernel_rfl) (by kernel_rfl) rfl fun t ht=> ?_⟩;rw [hp] at ht;simp at ht;rcases ht with rfl|rfl|rfl
   · exact ⟨16,cGraph,by kernel_rfl⟩
   · exact ⟨16,(.slice (.int .i64)),by kernel_rfl⟩
   · exact ⟨16,(.int .i64),by kernel_rfl⟩
noncomputable def laidWorld (os:Os):World:=
 { World.holding Tryz.prog os ⟨#[],#[],[]⟩ with heap:=((((World.holding Tryz.prog os ⟨#[],#[],[]⟩).heap.modify 1 fun
  | .cells _ t frozen=> .cells #[.int .u8 0,.int .u8 1,.int .u8 28,.int .u8 2,.int .u8 29,.int .u8 14,.int .u8 24,.int .u8 3,.int .u8 30,.int .u8 22,.int .u8 20,.int .u8 15,.int .u8 25,.int .u8 17,.int .u8 4,.int .u8 8,.int .u8 31,.int .u8 27,.int .u8 13,.int .u8 23,.int .u8 21,.int .u8 19,.int .u8 16,.int .u8 7,.int .u8 26,.int .u8 12,.int .u8 18,.int .u8 6,.int .u8 11,.int .u8 5,.int .u8 10,.int .u8 9] t frozen
  |o=>o).modify 2 fun
  | .cells _ t frozen=> .cells #[.int .u8 0,.int .u8 1,.int .u8 56,.int .u8 2,.int .u8 57,.int .u8 49,.int .u8 28,.int .u8 3,.int .u8 61,.int .u8 58,.int .u8 42,.int .u8 50,.int .u8 38,.int .u8 29,.int .u8 17,.int .u8 4,.int .u8 62,.int .u8 47,.int .u8 59,.int .u8 36,.int .u8 45,.int .u8 43,.int .u8 51,.int .u8 22,.int .u8 53,.int .u8 39,.int .u8 33,.int .u8 30,.int .u8 24,.int .u8 18,.int .u8 12,.int .u8 5,.int .u8 63,.int .u8 55,.int .u8 48,.int .u8 27,.int .u8 60,.int .u8 41,.int .u8 37,.int .u8 16,.int .u8 46,.int .u8 35,.int .u8 44,.int .u8 21,.int .u8 52,.int .u8 32,.int .u8 23,.int .u8 11,.int .u8 54,.int .u8 26,.int .u8 40,.int .u8 15,.int .u8 34,.int .u8 20,.int .u8 31,.int .u8 10,.int .u8 25,.int .u8 14,.int .u8 19,.int .u8 9,.int .u8 13,.int .u8 8,.int .u8 7,.int .u8 6] t frozen
  |o=>o).modify 0 fun
  | .cells _ t frozen=> .cells #[.int .u64 1,.int .u64 10,.int .u64 100,.int .u64 1000,.int .u64 10000,.int .u64 100000,.int .u64 1000000,.int .u64 10000000,.int .u64 100000000,.int .u64 1000000000,.int .u64 10000000000,.int .u64 100000000000,.int .u64 1000000000000,.int .u64 10000000000000,.int .u64 100000000000000,.int .u64 1000000000000000,.int .u64 10000000000000000,.int .u64 100000000000000000,.int .u64 1000000000000000000,.int .u64 10000000000000000000] t frozen
  |o=>o) }
def inArgs:Array Value:= #[.agg #[.slice none 0 0,.int .i64 0,.int .i64 0,.int .i64 0,.slice none 0 0,.slice none 0 0,.slice none 0 0,.slice none 0 0],.slice none 0 0,.int .i64 0]
theorem own:ownKnob Tryz.prog.godebug=none:=by kernel_rfl
theorem laid_met7 (os:Os):laidMet Tryz.prog YtjenflkegbmkkaaGreatDoor.Rows.coverHoldsRow.laid ((laidWorld os).forCall (fun _ _=>0) ⟨#[],inArgs,[]⟩).memory:=
 laidMet_of_run' 8 (by kernel_rfl) (by kernel_rfl)
theorem reads7 (os:Os) {H:Type} (enc:TypeId×Value->H):∃ places,DataW.whole enc Tryz.prog ((laidWorld os).forCall (fun _ _=>0) ⟨#[],inArgs,[]⟩).memory Tryz.f7.params.toList YtjenflkegbmkkaaGreatDoor.Rows.coverHoldsSpec.vars false inArgs.toList 8=
  some ([.agg [.nil,.lit (.int .i64 0),.lit (.int .i64 0),.lit (.int .i64 0),.nil,.nil,.nil,.nil],.nil,.lit (.int .i64 0)],[],places):=
 ⟨[],by kernel_rfl⟩
theorem lifted7 (os:Os) (started:os.Started) (H:Type) (enc:TypeId×Value->H) (F:Stop.Interp):
  ReturnsInHanded {} Tryz.checked os 7 .any ((OpenSpec.ofChange YtjenflkegbmkkaaGreatDoor.Rows.coverHoldsSpec).preRow enc Tryz.prog Tryz.f7 YtjenflkegbmkkaaGreatDoor.Rows.coverHoldsRow.domain false YtjenflkegbmkkaaGreatDoor.Rows.coverHoldsRow.laid) (((OpenSpec.ofChange YtjenflkegbmkkaaGreatDoor.Rows.coverHoldsSpec).at F).post enc Tryz.prog Tryz.f7 false true false false):=by
 obtain ⟨places,hx⟩:=reads7 os enc;refine returnsInHanded_of_row (C:=Tryz.checked) (s:=(OpenSpec.ofChange YtjenflkegbmkkaaGreatDoor.Rows.coverHoldsSpec)) own started (by kernel_rfl) Tryz.func7
  (witness_row_at (enc:=enc) (C:=Tryz.checked) false (laidWorld os) inArgs rfl (by kernel_rfl) (by kernel_rfl) (by kernel_rfl)
   (OpenSpec.preRow_of_cond 8 hx (by kernel_rfl) (fun k hk=>by cases hk) (by kernel_rfl) (laid_met7 os))) ?_
 intro W base args ds gs before hval hW _ _ hZ hL _ _;exact contract7 H enc W base args ds gs before hval hW hZ hL
theorem said7:YtjenflkegbmkkaaGreatDoor.Rows.CoverHoldsSaid:=
 OpenClaim.holds_of_cond 7 Tryz.f7 rfl rfl rfl rfl rfl rfl rfl ⟨rfl,rfl,rfl,rfl,rfl⟩ rfl rfl rfl rfl rfl (by kernel_rfl) Tryz.func7 (by kernel_rfl)
  (of_decide_eq_true (by kernel_rfl)) (by unfold Func.isWrapper;first|(rw [if_pos (by decide +kernel)];kernel_rfl)|(rw [if_neg (by decide +kernel)];exact ⟨rfl,rfl⟩))
  (fun os started H enc _ F=>by rw [OpenClaim.pre_eq_preRow];exact lifted7 os started H enc F)
theorem plain7 (f:FuncId) (fn:Func) (hf:YtjenflkegbmkkaaGreatDoor.Tryz.pinned.checked.prog.funcNamed YtjenflkegbmkkaaGreatDoor.Rows.coverHoldsRow.func=some f) (hfn:YtjenflkegbmkkaaGreatDoor.Tryz.pinned.checked.prog.funcs[f]?=some fn):
   false=YtjenflkegbmkkaaGreatDoor.Tryz.pinned.checked.prog.looks []/\∀ (j:Nat) t,fn.params[j]?=some t->YtjenflkegbmkkaaGreatDoor.Tryz.pinned.checked.prog.wantsStandIn t=false:=by
 obtain rfl:f=7:=Option.some.inj ((show Tryz.prog.funcNamed YtjenflkegbmkkaaGreatDoor.Rows.coverHoldsRow.func=some 7 by kernel_rfl).symm.trans hf) |>.symm
 obtain rfl:fn=Tryz.f7:=(Option.some.inj (Tryz.func7.symm.trans hfn)).symm;refine ⟨by kernel_rfl,fun j t ht=> ?_⟩;have hp:Tryz.f7.params= #[28,50,2]:=by kernel_rfl
 rw [hp] at ht;have hm:=Array.mem_of_getElem? ht;simp at hm;rcases hm with rfl|rfl|rfl
 · exact (show Tryz.prog.wantsStandIn 28=false by kernel_rfl)
 · exact (show Tryz.prog.wantsStandIn 50=false by kernel_rfl)
 · exact (show Tryz.prog.wantsStandIn 2=false by kernel_rfl)
theorem card7:YtjenflkegbmkkaaGreatDoor.Rows.CoverHoldsCardSaid:=
 Claim7.holds_tied_plain_at .later [] _ _ _ _ said7 (fun _ h=>by cases h) (by kernel_rfl) (fun _ h=>by cases h) YtjenflkegbmkkaaGreatDoor.coverHolds_row_tie rfl ⟨rfl,rfl⟩ (by kernel_rfl) rfl plain7 (by kernel_rfl)
end Go.U
namespace Go.Proofs.YtjenflkegbmkkaaGreatDoor
theorem coverHolds_holds : Rows.CoverHoldsCardSaid := Go.U.card7
end Go.Proofs.YtjenflkegbmkkaaGreatDoor
