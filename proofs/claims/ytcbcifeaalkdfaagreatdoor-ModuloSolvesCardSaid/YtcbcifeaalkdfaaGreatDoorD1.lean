/- What these Lean functions compute: plain arithmetic of congruences, the checks of a graph, the values of its registers. -/
import Derived.Test.YtcbcifeaalkdfaaGreatDoorC1
import Derived.Test.YtcbcifeaalkdfaaGreatDoorC0
import Derived.Test.YtcbcifeaalkdfaaGreatDoorB4
import Derived.Test.YtcbcifeaalkdfaaGreatDoorRows
import Derived.LaidSub
import Derived.MakeChecks
import Derived.Lib.LaidTab
set_option linter.unusedVariables false
set_option linter.unusedSimpArgs false
set_option linter.unusedSectionVars false
open List renaming mem_cons_self→Dd,mem_cons_of_mem→Rb,all_eq_true→ec,getElem?_map→xe,getElem?_eq_getElem→Da,mem_cons→me,getD→Qi
open Nat renaming zero_add→Qf
open Option renaming bind_some→da,map_eq_some_iff→ja
open Option.some renaming injEq→Wc,inj→fA
section
set_option maxRecDepth 100000
namespace Go.U
open Go Go.Proofs
theorem uo{α:Type}{x:α}:∀{l:List (FuncId×Option α)}{f:FuncId},vo none l f=some x->(f,some x)∈l
 |[],f,h=>by simp[vo]at h
 |(g,y)::l,f,h=>by
  unfold vo at h;split at h
  ·rename_i e;subst e;subst h;exact Dd
  ·exact Rb _ (uo h)
theorem jz:V.vy par:=λf fn h=>⟨h,by
 have h1:(Tryz.prog.funcs.toList.all λx=> !(x.name== "runtime.NumGoroutine"))=true:=by kernel_rfl
 have h2:=ec.1 h1 fn (Array.mem_toList_iff.2 (Array.mem_of_getElem? h))
 simpa using h2⟩
section
variable [Inhabited V.Rn]
theorem Xae{g:V.Gx}{w:World}{H:V.AH}(hw:V.Jc par.Na g w H):Lib.TabIs Tryz.prog w "internal/strconv.uint64pow10" .u64 Lib.pow10Tab:=by
 obtain⟨h1,cs,T,f,h2,h3⟩:=hw.Na 1 sw rfl
 have hg:Tryz.prog.globalNamed "internal/strconv.uint64pow10" =some 1:=by kernel_rfl
 unfold Lib.TabIs World.var?;rw[hg,da,h2];have hp:sw=Lib.pow10Tab.map (λz=>V.AV.int .u64 z):=rfl;cases h1 with
 |ee _ _ vs hs hz hc h1 hv=>
 simp only[Wc];refine Array.ext (by simp[h3,hp]) λi hi fY=> ?_
 have BA:i<sw.length:=by omega
 have Gn:=hc i BA;simp only[World.cell?,h2,Qf]at Gn;have e1:cs[i]?=some (vs i):=by simpa using Gn
 rw[Array.getElem?_eq_getElem hi]at e1;have hi3:i<Lib.pow10Tab.length:=by simpa[hp]using BA
 have hr:sw[i]?=some (V.AV.int .u64 (Lib.pow10Tab[i])):=by rw[hp,xe,Da hi3];rfl
 have ot:=hv i _ hr;have e2:cs[i]=vs i:=by simpa using e1
 rw[e2];cases hq:vs i with
 |_=>rw[hq]at ot;cases ot<;>simp
theorem M7:∀f h,par.ext f=some h->V.xy par f h/\∃fn,par.fns f=some fn/\fn.body.isSome=true:=λf h e=>by
 have hm:=uo (show vo none [(68,some (V.SF 100 5)),(118,some (V.ccX 100)),(120,some V.L_)] f=some h from e);rcases me.1 hm with e|hm
 ·cases e;exact⟨V.AY (A:=par) (λb w h=>Tryz.qak b w h) (λb gb cap n l w h0 h1 h2 h3 h4 h5 h6=>Tryz.pak b gb cap 0 l w h0 h2 h3 h1 h4 h5 h6),Tryz.f68,by kernel_rfl,by kernel_rfl⟩
 ·rcases me.1 hm with e|hm
  ·cases e;exact⟨V.Jab (A:=par) (λb w h0 h1 h2=>Tryz.v8 b w h0 h1 h2) (λb w h=>Tryz.Iab b w h),Tryz.f118,by kernel_rfl,by kernel_rfl⟩
  ·rcases me.1 hm with e|hm
   ·cases e;exact⟨V.K_ (A:=par) (λg w H hw n h0 h1=>Tryz.strconv_FormatInt_10 n h0 h1 w (Xae hw)),Tryz.f120,by kernel_rfl,by kernel_rfl⟩
   ·cases hm
theorem VE:V.BN par:=λf h e=>by
 obtain⟨h1,fn,h2,h3⟩:=M7 f h e;exact V.L7 jz h2 h3 h1
theorem Po:V.Wo par:=λf h e args H r H' hh=>by
 have hm:=uo (show vo none [(68,some (V.SF 100 5)),(118,some (V.ccX 100)),(120,some V.L_)] f=some h from e);rcases me.1 hm with e|hm
 ·cases e;exact V.TN hh
 ·rcases me.1 hm with e|hm
  ·cases e;exact V.KX hh
  ·rcases me.1 hm with e|hm
   ·cases e;exact V.mW hh
   ·cases hm
theorem dy:V.Km par:=V.FX (by kernel_rfl)
end
theorem F_{W:World}(hL:laidMetH Tryz.prog YtcbcifeaalkdfaaGreatDoor.Rows.moduloSolvesRow.laid W):∀i row,par.Na i=some row->V.tg (ji W) W i row:=λi row h=>by
 have hm:=uo (show vo none [(1,some sw)] i=some row from h);rcases me.1 hm with e|hm
 ·cases e
  have hf:=hL.filter λx=>x.1== "internal/strconv.uint64pow10"
  have e:(YtcbcifeaalkdfaaGreatDoor.Rows.moduloSolvesRow.laid.filter λx=>x.1== "internal/strconv.uint64pow10")=[("internal/strconv.uint64pow10",Lib.tabData .u64 Lib.pow10Tab)]:=by kernel_rfl
  rw[e]at hf
  have hf:laidMet Tryz.prog [("internal/strconv.uint64pow10",Lib.tabData .u64 Lib.pow10Tab)] W:=hf
  have hg:Tryz.prog.globalNamed "internal/strconv.uint64pow10" =some 1:=by kernel_rfl
  have ht:Lib.TabIs Tryz.prog W "internal/strconv.uint64pow10" .u64 Lib.pow10Tab:=by
   refine Lib.tabIs_of_head (g:=1) (t:=192) (e:=38) (n:=20) hg (by kernel_rfl) (by kernel_rfl) (by kernel_rfl) (by kernel_rfl) (by kernel_rfl) hf
  have ht':=ht;unfold Lib.TabIs World.var? at ht;rw[hg,da]at ht;cases hb:W.heap[(1:Nat)]? with
  |none=>rw[hb]at ht;cases ht
  |some o=>
   cases o with
   |cells cs T f=>
    rw[hb]at ht;have ht:=fA ht;refine⟨.ee _ _ (λc=> .int .u64 (Lib.pow10Tab.getD c 0)) rfl ?_ (λc hc=> ?_) (λc hc=>rfl) (λc x hx=> ?_),cs,T,f,hb,by rw[ht];rfl⟩
    ·exact V.Za hb
    ·have:=ht'.cell hg c (by exact hc)
     simpa using this
    ·have hp:sw=Lib.pow10Tab.map (λz=>V.AV.int .u64 z):=rfl;rw[hp,xe]at hx;obtain⟨z,hz,rfl⟩:=ja.1 hx;simp only[Qi,hz,Option.getD_some];exact .int _ _
   |_=>rw[hb]at ht;cases ht
 ·cases hm
end Go.U
end
