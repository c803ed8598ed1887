/-
  CoverGrowsUpto: whatever the law's function is handed, it returns true, and its arguments read behind the call as they read before.
  Conditions: the package-level variables that the row lists hold what the program's own text lays into them (the card ties that to the text); the strings and slices that come in are no larger than a process can hold (the form's own reach); all that it reads is together of bulk at most 1048576 (the second form).
-/
import Derived.Test.YtjenflkegbmkkaaGreatDoorD8
import Derived.Test.YtjenflkegbmkkaaGreatDoorD7
import Derived.Test.YtjenflkegbmkkaaGreatDoorB4
import Derived.Test.YtjenflkegbmkkaaGreatDoorD1
import Derived.Test.YtjenflkegbmkkaaGreatDoorCards
import Derived.Test.YtjenflkegbmkkaaGreatDoorTie
import Derived.WalkKit
import Derived.ProofKit
import Derived.OpenShut
import Derived.Deep.DeepHandedRow
import Derived.Lib.LaidTab
set_option linter.unusedVariables false
set_option maxRecDepth 100000
namespace Go.U
open Go Go.Proofs
theorem run5 (x0:TGraph) (x1:(List (List Int))) (x2:(List (List Int))) (x3:Int):f5_sp UV [argU true cGraph x0,argU false (.slice (.slice (.int .i64))) x1,argU false (.slice (.slice (.int .i64))) x2,argU false (.int .i64) x3] ⟨[],0⟩ (fun r _=>some r)=(f5_m (x0,x1,x2,x3)).bind fun r=>some (.bool r):=by kernel_rfl
theorem bulk_pos {H:Type} (d:DataW H):1<=YtjenflkegbmkkaaGreatDoor.Rows.uptoBulk d:=by
 cases d with
 |lit l=>cases l<;>simp [YtjenflkegbmkkaaGreatDoor.Rows.uptoBulk]
 |_=>simp [YtjenflkegbmkkaaGreatDoor.Rows.uptoBulk]
theorem bulk_mem {H:Type}:∀ {l:List (DataW H)} {d:DataW H},d∈l->YtjenflkegbmkkaaGreatDoor.Rows.uptoBulk d<=YtjenflkegbmkkaaGreatDoor.Rows.uptoBulkAll l
 |x::l,d,h=>by
  rw [YtjenflkegbmkkaaGreatDoor.Rows.uptoBulkAll];rcases List.mem_cons.1 h with rfl|h
  · omega
  · have:=bulk_mem h;omega
theorem bulk_len {H:Type}:∀ (l:List (DataW H)),l.length<=YtjenflkegbmkkaaGreatDoor.Rows.uptoBulkAll l
 |[]=>by simp
 |x::l=>by
  rw [YtjenflkegbmkkaaGreatDoor.Rows.uptoBulkAll,List.length_cons];have:=bulk_pos x;have:=bulk_len l;omega
theorem bulk_down {H:Type}:Down 1048576 (fun d:DataW H=>YtjenflkegbmkkaaGreatDoor.Rows.uptoBulk d<=1048576):=
 ⟨fun b h _=>by simp only [YtjenflkegbmkkaaGreatDoor.Rows.uptoBulk] at h;omega,fun es sp h=>by
  simp only [YtjenflkegbmkkaaGreatDoor.Rows.uptoBulk] at h;exact ⟨fun _=>by have:=bulk_len es;omega,fun d hd=>by have:=bulk_mem hd;omega⟩,fun ps h d hd=>by
  simp only [YtjenflkegbmkkaaGreatDoor.Rows.uptoBulk] at h;have:=bulk_mem hd;omega⟩
theorem contract5 (H:Type) (enc':TypeId×Value->H) (W:World) (base:Nat) (args:Array Value) (ds gs:List (DataW H)) (before:List MemPlace)
   (hval:∀ (j:Nat) t v,Tryz.f5.params[j]?=some t->args[j]?=some v->Value.okWide Tryz.prog W .any base t v)
   (hW:DataW.Whole enc' Tryz.prog Tryz.f5.params.toList YtjenflkegbmkkaaGreatDoor.Rows.coverGrowsSpec.vars false W args.toList ds gs before) (hk:∀ k,(YtjenflkegbmkkaaGreatDoor.Rows.OpenSpec.upto YtjenflkegbmkkaaGreatDoor.Rows.coverGrowsSpec).cond=some k->k H (ds++gs)=true) (hZ:(DataW.weightsEach Tryz.prog (Tryz.f5.params.toList++(YtjenflkegbmkkaaGreatDoor.Rows.OpenSpec.upto YtjenflkegbmkkaaGreatDoor.Rows.coverGrowsSpec).bare.plain.varTypes Tryz.prog) (ds++gs)).all (· <=reachBytes)=true) (hL:laidMetH Tryz.prog YtjenflkegbmkkaaGreatDoor.Rows.coverGrowsUptoRow.laid W):
   Calls Tryz.prog 5 args W fun e W'=>∃ v,e= .returned v/\YtjenflkegbmkkaaGreatDoor.Rows.coverGrowsSpec.post enc' Tryz.prog Tryz.f5 false true false false W args v W':=by
 obtain ⟨p,q,hA,hV,rfl,_,_⟩:=id hW;have hg:gs=[]:=by
   cases gs with
   |nil=>rfl
   |cons d gs=>exact hV.elim
 subst hg;have hp:Tryz.f5.params= #[28,29,29,2]:=by kernel_rfl
 have hA':=hA;rw [hp] at hA' hval;have hwt:∀ b∈DataW.weightsEach Tryz.prog [28,29,29,2] ds,b<=reachBytes:=by
   rw [hp,List.append_nil] at hZ;have e:(YtjenflkegbmkkaaGreatDoor.Rows.OpenSpec.upto YtjenflkegbmkkaaGreatDoor.Rows.coverGrowsSpec).bare.plain.varTypes Tryz.prog=[]:=by kernel_rfl
   rw [e] at hZ;intro b hb
   simpa using List.all_eq_true.1 hZ b hb
 have hq:∀ d∈ds,YtjenflkegbmkkaaGreatDoor.Rows.uptoBulk d<=1048576:=fun d hd=>by
   have h:=hk _ rfl;have h:=of_decide_eq_true h;rw [List.append_nil] at h;exact Nat.le_trans (bulk_mem hd) h
 have hD:=bulk_down (H:=H);obtain ⟨v0,vs0,d0,ds0,p0,q0,ha0,rfl,t0,r0⟩:=open_cons hA';obtain ⟨v1,vs1,d1,ds1,p1,q1,rfl,rfl,t1,r1⟩:=open_cons r0;obtain ⟨v2,vs2,d2,ds2,p2,q2,rfl,rfl,t2,r2⟩:=open_cons r1;obtain ⟨v3,vs3,d3,ds3,p3,q3,rfl,rfl,t3,r3⟩:=open_cons r2;obtain ⟨rfl,rfl⟩:=open_nil r3;obtain ⟨w0,hwt,hq⟩:=wts_cons (Q:=fun d=>YtjenflkegbmkkaaGreatDoor.Rows.uptoBulk d<=1048576) hwt hq;obtain ⟨w1,hwt,hq⟩:=wts_cons (Q:=fun d=>YtjenflkegbmkkaaGreatDoor.Rows.uptoBulk d<=1048576) hwt hq;obtain ⟨w2,hwt,hq⟩:=wts_cons (Q:=fun d=>YtjenflkegbmkkaaGreatDoor.Rows.uptoBulk d<=1048576) hwt hq;obtain ⟨w3,hwt,hq⟩:=wts_cons (Q:=fun d=>YtjenflkegbmkkaaGreatDoor.Rows.uptoBulk d<=1048576) hwt hq;obtain rfl:args= #[v0,v1,v2,v3]:=by cases args;simp_all
 obtain ⟨x0,h0,a0,ru0,rv0⟩:=open_arg hD (d:=16) (c:=cGraph) (by kernel_rfl) (hval 0 28 v0 rfl rfl) t0 w0;obtain ⟨x1,h1,a1,ru1,rv1⟩:=open_arg hD (d:=16) (c:=(.slice (.slice (.int .i64)))) (by kernel_rfl) (hval 1 29 v1 rfl rfl) t1 w1;obtain ⟨x2,h2,a2,ru2,rv2⟩:=open_arg hD (d:=16) (c:=(.slice (.slice (.int .i64)))) (by kernel_rfl) (hval 2 29 v2 rfl rfl) t2 w2;obtain ⟨x3,h3,a3,ru3,rv3⟩:=open_arg hD (d:=16) (c:=(.int .i64)) (by kernel_rfl) (hval 3 2 v3 rfl rfl) t3 w3;have hr:f5_sp UV [argU (aggB Tryz.prog 28) cGraph x0,argU (aggB Tryz.prog 29) (.slice (.slice (.int .i64))) x1,argU (aggB Tryz.prog 29) (.slice (.slice (.int .i64))) x2,argU (aggB Tryz.prog 2) (.int .i64) x3] ⟨[],0⟩ (fun r _=>some r)=some (.bool true):=by
   have e28:aggB Tryz.prog 28=true:=by kernel_rfl
   have e29:aggB Tryz.prog 29=false:=by kernel_rfl
   have e2:aggB Tryz.prog 2=false:=by kernel_rfl
   rw [e28,e29,e2];exact (run5 x0 x1 x2 x3).trans (by rw [law5 x0 x1 x2 x3 h0 h1 h2 h3];rfl)
 refine (law_calls (A:=par) fns_ok ext_ok ext_quiet draw_ok (f:=5) (fn:=Tryz.f5) (by kernel_rfl) (by kernel_rfl) (f5_ok _ (Nat.le_refl _)) (av:=[a0,a1,a2,a3]) (vs:=[v0,v1,v2,v3]) hr
   (fun m=>RL.cons (ru0 m) (RL.cons (ru1 m) (RL.cons (ru2 m) (RL.cons (ru3 m) RL.nil)))) (wrel_all (glob_of hL)) rfl (fun i x v hx hv=> ?_)).mono ?_
 · match i,hx,hv with
   |0,hx,hv=>simp at hx hv;subst hx;subst hv;exact rv0
   |1,hx,hv=>simp at hx hv;subst hx;subst hv;exact rv1
   |2,hx,hv=>simp at hx hv;subst hx;subst hv;exact rv2
   |3,hx,hv=>simp at hx hv;subst hx;subst hv;exact rv3
   |i+4,hx,_=>simp at hx
 · rintro e W' ⟨rfl,hS⟩
   refine ⟨_,rfl,post_told rfl hW hS (tb:=4) (by kernel_rfl) (by kernel_rfl) rfl fun t ht=> ?_⟩;rw [hp] at ht;simp at ht;rcases ht with rfl|rfl|rfl
   · exact ⟨16,cGraph,by kernel_rfl⟩
   · exact ⟨16,(.slice (.slice (.int .i64))),by kernel_rfl⟩
   · exact ⟨16,(.int .i64),by kernel_rfl⟩
noncomputable def laidWorld (os:Os):World:=
 { World.holding Tryz.prog os ⟨#[],#[],[]⟩ with heap:=((((World.holding Tryz.prog os ⟨#[],#[],[]⟩).heap.modify 1 fun
  | .cells _ t frozen=> .cells #[.int .u8 0,.int .u8 1,.int .u8 28,.int .u8 2,.int .u8 29,.int .u8 14,.int .u8 24,.int .u8 3,.int .u8 30,.int .u8 22,.int .u8 20,.int .u8 15,.int .u8 25,.int .u8 17,.int .u8 4,.int .u8 8,.int .u8 31,.int .u8 27,.int .u8 13,.int .u8 23,.int .u8 21,.int .u8 19,.int .u8 16,.int .u8 7,.int .u8 26,.int .u8 12,.int .u8 18,.int .u8 6,.int .u8 11,.int .u8 5,.int .u8 10,.int .u8 9] t frozen
  |o=>o).modify 2 fun
  | .cells _ t frozen=> .cells #[.int .u8 0,.int .u8 1,.int .u8 56,.int .u8 2,.int .u8 57,.int .u8 49,.int .u8 28,.int .u8 3,.int .u8 61,.int .u8 58,.int .u8 42,.int .u8 50,.int .u8 38,.int .u8 29,.int .u8 17,.int .u8 4,.int .u8 62,.int .u8 47,.int .u8 59,.int .u8 36,.int .u8 45,.int .u8 43,.int .u8 51,.int .u8 22,.int .u8 53,.int .u8 39,.int .u8 33,.int .u8 30,.int .u8 24,.int .u8 18,.int .u8 12,.int .u8 5,.int .u8 63,.int .u8 55,.int .u8 48,.int .u8 27,.int .u8 60,.int .u8 41,.int .u8 37,.int .u8 16,.int .u8 46,.int .u8 35,.int .u8 44,.int .u8 21,.int .u8 52,.int .u8 32,.int .u8 23,.int .u8 11,.int .u8 54,.int .u8 26,.int .u8 40,.int .u8 15,.int .u8 34,.int .u8 20,.int .u8 31,.int .u8 10,.int .u8 25,.int .u8 14,.int .u8 19,.int .u8 9,.int .u8 13,.int .u8 8,.int .u8 7,.int .u8 6] t frozen
  |o=>o).modify 0 fun
  | .cells _ t frozen=> .cells #[.int .u64 1,.int .u64 10,.int .u64 100,.int .u64 1000,.int .u64 10000,.int .u64 100000,.int .u64 1000000,.int .u64 10000000,.int .u64 100000000,.int .u64 1000000000,.int .u64 10000000000,.int .u64 100000000000,.int .u64 1000000000000,.int .u64 10000000000000,.int .u64 100000000000000,.int .u64 1000000000000000,.int .u64 10000000000000000,.int .u64 100000000000000000,.int .u64 1000000000000000000,.int .u64 10000000000000000000] t frozen
  |o=>o) }
def inArgs:Array Value:= #[.agg #[.slice none 0 0,.int .i64 0,.int .i64 0,.int .i64 0,.slice none 0 0,.slice none 0 0,.slice none 0 0,.slice none 0 0],.slice none 0 0,.slice none 0 0,.int .i64 0]
theorem own:ownKnob Tryz.prog.godebug=none:=by kernel_rfl
theorem laid_met5 (os:Os):laidMet Tryz.prog YtjenflkegbmkkaaGreatDoor.Rows.coverGrowsUptoRow.laid ((laidWorld os).forCall (fun _ _=>0) ⟨#[],inArgs,[]⟩).memory:=
 laidMet_of_run' 8 (by kernel_rfl) (by kernel_rfl)
theorem reads5 (os:Os) {H:Type} (enc:TypeId×Value->H):∃ places,DataW.whole enc Tryz.prog ((laidWorld os).forCall (fun _ _=>0) ⟨#[],inArgs,[]⟩).memory Tryz.f5.params.toList YtjenflkegbmkkaaGreatDoor.Rows.coverGrowsSpec.vars false inArgs.toList 8=
  some ([.agg [.nil,.lit (.int .i64 0),.lit (.int .i64 0),.lit (.int .i64 0),.nil,.nil,.nil,.nil],.nil,.nil,.lit (.int .i64 0)],[],places):=
 ⟨[],by kernel_rfl⟩
theorem lifted5 (os:Os) (started:os.Started) (H:Type) (enc:TypeId×Value->H) (F:Stop.Interp):
  ReturnsInHanded {} Tryz.checked os 5 .any ((YtjenflkegbmkkaaGreatDoor.Rows.OpenSpec.upto YtjenflkegbmkkaaGreatDoor.Rows.coverGrowsSpec).preRow enc Tryz.prog Tryz.f5 YtjenflkegbmkkaaGreatDoor.Rows.coverGrowsUptoRow.domain false YtjenflkegbmkkaaGreatDoor.Rows.coverGrowsUptoRow.laid) (((YtjenflkegbmkkaaGreatDoor.Rows.OpenSpec.upto YtjenflkegbmkkaaGreatDoor.Rows.coverGrowsSpec).at F).post enc Tryz.prog Tryz.f5 false true false false):=by
 obtain ⟨places,hx⟩:=reads5 os enc;refine returnsInHanded_of_row (C:=Tryz.checked) (s:=(YtjenflkegbmkkaaGreatDoor.Rows.OpenSpec.upto YtjenflkegbmkkaaGreatDoor.Rows.coverGrowsSpec)) own started (by kernel_rfl) Tryz.func5
  (witness_row_at (enc:=enc) (C:=Tryz.checked) false (laidWorld os) inArgs rfl (by kernel_rfl) (by kernel_rfl) (by kernel_rfl)
   (OpenSpec.preRow_of_cond 8 hx (by kernel_rfl) (fun k hk=>by cases hk;kernel_rfl) (by kernel_rfl) (laid_met5 os))) ?_
 intro W base args ds gs before hval hW _ hk hZ hL _ _;exact contract5 H enc W base args ds gs before hval hW hk hZ hL
theorem said5:YtjenflkegbmkkaaGreatDoor.Rows.CoverGrowsUptoSaid:=
 OpenClaim.holds_of_cond 5 Tryz.f5 rfl rfl rfl rfl rfl rfl rfl ⟨rfl,rfl,rfl,rfl,rfl⟩ rfl rfl rfl rfl rfl (by kernel_rfl) Tryz.func5 (by kernel_rfl)
  (of_decide_eq_true (by kernel_rfl)) (by unfold Func.isWrapper;first|(rw [if_pos (by decide +kernel)];kernel_rfl)|(rw [if_neg (by decide +kernel)];exact ⟨rfl,rfl⟩))
  (fun os started H enc _ F=>by rw [OpenClaim.pre_eq_preRow];exact lifted5 os started H enc F)
theorem plain5 (f:FuncId) (fn:Func) (hf:YtjenflkegbmkkaaGreatDoor.Tryz.pinned.checked.prog.funcNamed YtjenflkegbmkkaaGreatDoor.Rows.coverGrowsUptoRow.func=some f) (hfn:YtjenflkegbmkkaaGreatDoor.Tryz.pinned.checked.prog.funcs[f]?=some fn):
   false=YtjenflkegbmkkaaGreatDoor.Tryz.pinned.checked.prog.looks []/\∀ (j:Nat) t,fn.params[j]?=some t->YtjenflkegbmkkaaGreatDoor.Tryz.pinned.checked.prog.wantsStandIn t=false:=by
 obtain rfl:f=5:=Option.some.inj ((show Tryz.prog.funcNamed YtjenflkegbmkkaaGreatDoor.Rows.coverGrowsUptoRow.func=some 5 by kernel_rfl).symm.trans hf) |>.symm
 obtain rfl:fn=Tryz.f5:=(Option.some.inj (Tryz.func5.symm.trans hfn)).symm;refine ⟨by kernel_rfl,fun j t ht=> ?_⟩;have hp:Tryz.f5.params= #[28,29,29,2]:=by kernel_rfl
 rw [hp] at ht;have hm:=Array.mem_of_getElem? ht;simp at hm;rcases hm with rfl|rfl|rfl
 · exact (show Tryz.prog.wantsStandIn 28=false by kernel_rfl)
 · exact (show Tryz.prog.wantsStandIn 29=false by kernel_rfl)
 · exact (show Tryz.prog.wantsStandIn 2=false by kernel_rfl)
theorem card5:YtjenflkegbmkkaaGreatDoor.Rows.CoverGrowsUptoCardSaid:=
 Claim7.holds_tied_plain_at .later [] _ _ _ _ said5 (fun _ h=>by cases h) (by kernel_rfl) (fun _ h=>by cases h) YtjenflkegbmkkaaGreatDoor.coverGrowsUpto_row_tie rfl ⟨rfl,rfl⟩ (by kernel_rfl) rfl plain5 (by kernel_rfl)
end Go.U
namespace Go.Proofs.YtjenflkegbmkkaaGreatDoor
theorem coverGrowsUpto_holds : Rows.CoverGrowsUptoCardSaid := Go.U.card5
end Go.Proofs.YtjenflkegbmkkaaGreatDoor
