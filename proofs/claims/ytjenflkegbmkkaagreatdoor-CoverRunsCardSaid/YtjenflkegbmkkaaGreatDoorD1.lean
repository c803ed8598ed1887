/- What these Lean functions compute: plain arithmetic of congruences, the checks of a graph, the values of its registers. -/
import Derived.Test.YtjenflkegbmkkaaGreatDoorC1
import Derived.Test.YtjenflkegbmkkaaGreatDoorC0
import Derived.Test.YtjenflkegbmkkaaGreatDoorB4
import Derived.Test.YtjenflkegbmkkaaGreatDoorRows
import Derived.LaidSub
import Derived.MakeChecks
import Derived.Lib.LaidTab
set_option linter.unusedVariables false
set_option linter.unusedSimpArgs false
set_option linter.unusedSectionVars false
open List renaming mem_cons→Yb,mem_cons_self→Ad,mem_cons_of_mem→Wb,getElem?_map→Tb,getElem?_eq_getElem→Ba
open Nat renaming zero_add→Re
open Option renaming bind_some→ga,map_eq_some_iff→ia
open Option.some renaming injEq→Dc,inj→Ek
section
set_option maxRecDepth 100000
namespace Go.U
open Go Go.Proofs
def fI(p:FuncId×Option Func):Prop:=∀fn,p.2=some fn->Tryz.prog.funcs[p.1]?=some fn/\(fn.name== "runtime.NumGoroutine")=false
theorem fn0:∀p∈([]:List (FuncId×Option Func)),fI p:=fun _ h=>by cases h
theorem fc{f:FuncId}{fn:Func}{l:List (FuncId×Option Func)}(h:Tryz.prog.funcs[f]?=some fn) (hn:(fn.name== "runtime.NumGoroutine")=false) (hl:∀p∈l,fI p):∀p∈(f,some fn)::l,fI p:=fun p hp=>by
 rcases Yb.1 hp with rfl|hp
 ·intro fn' e;cases e;exact⟨h,hn⟩
 ·exact hl p hp
theorem Zm{α:Type}{x:α}:∀{l:List (FuncId×Option α)}{f:FuncId},Ol none l f=some x->(f,some x)∈l
 |[],f,h=>by simp[Ol]at h
 |(g,y)::l,f,h=>by
  unfold Ol at h;split at h
  ·rename_i e;subst e;subst h;exact Ad
  ·exact Wb _ (Zm h)
theorem tW:∀p∈Nae,fI p:=
 (fc Tryz.func3 (by kernel_rfl) (fc Tryz.func4 (by kernel_rfl) (fc Tryz.func5 (by kernel_rfl) (fc Tryz.func6 (by kernel_rfl) (fc Tryz.func7 (by kernel_rfl) (fc Tryz.func8 (by kernel_rfl) (fc Tryz.func9 (by kernel_rfl) (fc Tryz.func10 (by kernel_rfl) (fc Tryz.func11 (by kernel_rfl) (fc Tryz.func12 (by kernel_rfl) (fc Tryz.func13 (by kernel_rfl) (fc Tryz.func14 (by kernel_rfl) (fc Tryz.func15 (by kernel_rfl) (fc Tryz.func16 (by kernel_rfl) (fc Tryz.func17 (by kernel_rfl) (fc Tryz.func18 (by kernel_rfl) (fc Tryz.func19 (by kernel_rfl) (fc Tryz.func20 (by kernel_rfl) (fc Tryz.func21 (by kernel_rfl) (fc Tryz.func22 (by kernel_rfl) (fc Tryz.func23 (by kernel_rfl) (fc Tryz.func24 (by kernel_rfl) (fc Tryz.func25 (by kernel_rfl) (fc Tryz.func26 (by kernel_rfl) (fc Tryz.func27 (by kernel_rfl) (fc Tryz.func28 (by kernel_rfl) (fc Tryz.func29 (by kernel_rfl) (fc Tryz.func30 (by kernel_rfl) (fc Tryz.func31 (by kernel_rfl) (fc Tryz.func32 (by kernel_rfl) (fc Tryz.func33 (by kernel_rfl) (fc Tryz.func34 (by kernel_rfl) (fc Tryz.func35 (by kernel_rfl) (fc Tryz.func36 (by kernel_rfl) (fc Tryz.func37 (by kernel_rfl) (fc Tryz.func39 (by kernel_rfl) (fc Tryz.func40 (by kernel_rfl) (fc Tryz.func42 (by kernel_rfl) (fc Tryz.func43 (by kernel_rfl) (fc Tryz.func44 (by kernel_rfl) (fc Tryz.func50 (by kernel_rfl) (fc Tryz.func55 (by kernel_rfl) (fc Tryz.func56 (by kernel_rfl) (fc Tryz.func57 (by kernel_rfl) (fc Tryz.func58 (by kernel_rfl) (fc Tryz.func59 (by kernel_rfl) (fc Tryz.func60 (by kernel_rfl) (fc Tryz.func61 (by kernel_rfl) (fc Tryz.func62 (by kernel_rfl) (fc Tryz.func63 (by kernel_rfl) (fc Tryz.func64 (by kernel_rfl) (fc Tryz.func65 (by kernel_rfl) (fc Tryz.func66 (by kernel_rfl) (fc Tryz.func68 (by kernel_rfl) (fc Tryz.func69 (by kernel_rfl) (fc Tryz.func72 (by kernel_rfl) (fc Tryz.func75 (by kernel_rfl) (fc Tryz.func76 (by kernel_rfl) (fc Tryz.func77 (by kernel_rfl) (fc Tryz.func78 (by kernel_rfl) (fc Tryz.func79 (by kernel_rfl) (fc Tryz.func80 (by kernel_rfl) (fc Tryz.func81 (by kernel_rfl) (fc Tryz.func82 (by kernel_rfl) (fc Tryz.func83 (by kernel_rfl) (fc Tryz.func84 (by kernel_rfl) (fc Tryz.func85 (by kernel_rfl) (fc Tryz.func86 (by kernel_rfl) (fc Tryz.func87 (by kernel_rfl) (fc Tryz.func88 (by kernel_rfl) (fc Tryz.func89 (by kernel_rfl) (fc Tryz.func90 (by kernel_rfl) (fc Tryz.func91 (by kernel_rfl) (fc Tryz.func92 (by kernel_rfl) (fc Tryz.func93 (by kernel_rfl) (fc Tryz.func94 (by kernel_rfl) (fc Tryz.func95 (by kernel_rfl) (fc Tryz.func96 (by kernel_rfl) (fc Tryz.func97 (by kernel_rfl) (fc Tryz.func98 (by kernel_rfl) (fc Tryz.func99 (by kernel_rfl) (fc Tryz.func100 (by kernel_rfl) (fc Tryz.func101 (by kernel_rfl) (fc Tryz.func115 (by kernel_rfl) (fc Tryz.func124 (by kernel_rfl) (fc Tryz.func125 (by kernel_rfl) (fc Tryz.func126 (by kernel_rfl) (fc Tryz.func127 (by kernel_rfl) (fc Tryz.func128 (by kernel_rfl) (fc Tryz.func129 (by kernel_rfl) (fc Tryz.func130 (by kernel_rfl) (fc Tryz.func131 (by kernel_rfl) (fc Tryz.func38 (by kernel_rfl) (fc Tryz.func41 (by kernel_rfl) (fc Tryz.func67 (by kernel_rfl) (fc Tryz.func103 (by kernel_rfl) (fc Tryz.func48 (by kernel_rfl) (fc Tryz.func47 (by kernel_rfl) (fc Tryz.func49 (by kernel_rfl) (fc Tryz.func45 (by kernel_rfl) (fc Tryz.func51 (by kernel_rfl) (fc Tryz.func46 (by kernel_rfl) fn0))))))))))))))))))))))))))))))))))))))))))))))))))))))))))))))))))))))))))))))))))))))))))))))))))))))
theorem sW:V.rz par:=fun f fn h=>tW _ (Zm h) fn rfl
theorem E_{g:V.Gx}{w:World}{H:V.AH}(hw:V.dc par.Pa g w H):Lib.TabIs Tryz.prog w "internal/strconv.uint64pow10" .u64 Lib.pow10Tab:=by
 obtain⟨h1,cs,T,f,h2,h3⟩:=hw.Pa 0 gB rfl
 have hg:Tryz.prog.globalNamed "internal/strconv.uint64pow10" =some 0:=by kernel_rfl
 unfold Lib.TabIs World.var?;rw[hg,ga,h2];have hp:gB=Lib.pow10Tab.map (fun z=>V.AV.int .u64 z):=rfl;cases h1 with
 |Ed _ _ vs hs hz hc h1 hv=>
 simp only[Dc];refine Array.ext (by simp[h3,hp]) fun i hi hi2=> ?_
 have PK:i<gB.length:=by omega
 have Mn:=hc i PK;simp only[World.cell?,h2,Re]at Mn;have e1:cs[i]?=some (vs i):=by simpa using Mn
 rw[Array.getElem?_eq_getElem hi]at e1;have hi3:i<Lib.pow10Tab.length:=by simpa[hp]using PK
 have hr:gB[i]?=some (V.AV.int .u64 (Lib.pow10Tab[i])):=by rw[hp,Tb,Ba hi3];rfl
 have Ht:=hv i _ hr;have e2:cs[i]=vs i:=by simpa using e1
 rw[e2];cases hq:vs i with
 |_=>rw[hq]at Ht;cases Ht<;>simp
theorem ZZ:∀f h,par.ext f=some h->V.ym par f h/\∃fn,par.fns f=some fn/\fn.body.isSome=true:=fun f h e=>by
 have hm:=Zm (show Ol none [(41,some (V.YC 74 5)),(67,some (V.b7 74)),(103,some (V.F5)),(45,some (V.Aw)),(51,some (V.Bm 52 V.Mh)),(46,some (V.Tn V.Vp))] f=some h from e);rcases Yb.1 hm with e|hm
 ·cases e;exact⟨V.PU (A:=par) (fun b w h=>Tryz.Jad b w h) (fun b gb cap n l w h0 h1 h2 h3 h4 h5 h6=>Tryz.Iad b gb cap 0 l w h0 h2 h3 h1 h4 h5 h6),Tryz.f41,by kernel_rfl,by kernel_rfl⟩
 ·rcases Yb.1 hm with e|hm
  ·cases e;exact⟨V.Z6 (A:=par) (fun b w h0 h1 h2=>Tryz.W0 b w h0 h1 h2) (fun b w h=>Tryz.X6 b w h),Tryz.f67,by kernel_rfl,by kernel_rfl⟩
  ·rcases Yb.1 hm with e|hm
   ·cases e;exact⟨V.E5 (A:=par) (fun g w H hw n h0 h1=>Tryz.internal_strconv_FormatInt_10 n h0 h1 w (E_ hw)),Tryz.f103,by kernel_rfl,by kernel_rfl⟩
   ·rcases Yb.1 hm with e|hm
    ·cases e;exact⟨V.YT (A:=par) (fun Vc off cap i j zs w hH hc hm hi hj=>Tryz.slices_Delete_int Vc off cap i j zs w hH hc hm hi hj) (fun p cap w=>Tryz.slices_Delete_int_empty p cap w),Tryz.f45,by kernel_rfl,by kernel_rfl⟩
    ·rcases Yb.1 hm with e|hm
     ·cases e;exact⟨V.pL (A:=par) V.vE (fun Vc off cap zs w h1 h2 h3=>Tryz.AI Vc off cap zs w h1 h2 h3) (fun p cap w=>Tryz.nL p cap w),Tryz.f51,by kernel_rfl,by kernel_rfl⟩
     ·rcases Yb.1 hm with e|hm
      ·cases e;exact⟨V.sL (A:=par) V.tE (fun Vc off cap zs w h1 h2 h3=>Tryz.zI Vc off cap zs w h1 h2 h3) (fun p cap w=>Tryz.slices_Sort_int_none p cap w),Tryz.f46,by kernel_rfl,by kernel_rfl⟩
      ·cases hm
theorem yad:V.yQ par:=fun f h e=>by
 obtain⟨h1,fn,h2,h3⟩:=ZZ f h e;exact V.YZ sW h2 h3 h1
theorem TT:V.br par:=fun f h e args H r H' hh=>by
 have hm:=Zm (show Ol none [(41,some (V.YC 74 5)),(67,some (V.b7 74)),(103,some (V.F5)),(45,some (V.Aw)),(51,some (V.Bm 52 V.Mh)),(46,some (V.Tn V.Vp))] f=some h from e);rcases Yb.1 hm with e|hm
 ·cases e;exact V.iL hh
 ·rcases Yb.1 hm with e|hm
  ·cases e;exact V.eU hh
  ·rcases Yb.1 hm with e|hm
   ·cases e;exact V.VR hh
   ·rcases Yb.1 hm with e|hm
    ·cases e;exact V.wK hh
    ·rcases Yb.1 hm with e|hm
     ·cases e;exact V.XF hh
     ·rcases Yb.1 hm with e|hm
      ·cases e;exact V.ZF hh
      ·cases hm
theorem T6:V.Jn par:=V.WT (by kernel_rfl)
theorem y5{W:World}(hL:laidMetH Tryz.prog YtjenflkegbmkkaaGreatDoor.Rows.coverRunsRow.laid W):∀i row,par.Pa i=some row->V.Ro (Px W) W i row:=fun i row h=>by
 have hm:=Zm (show Ol none [(0,some gB)] i=some row from h);rcases Yb.1 hm with e|hm
 ·cases e
  have hf:=hL.filter fun x=>x.1== "internal/strconv.uint64pow10"
  have e:(YtjenflkegbmkkaaGreatDoor.Rows.coverRunsRow.laid.filter fun x=>x.1== "internal/strconv.uint64pow10")=[("internal/strconv.uint64pow10",Lib.tabData .u64 Lib.pow10Tab)]:=by kernel_rfl
  rw[e]at hf
  have hf:laidMet Tryz.prog [("internal/strconv.uint64pow10",Lib.tabData .u64 Lib.pow10Tab)] W:=hf
  have hg:Tryz.prog.globalNamed "internal/strconv.uint64pow10" =some 0:=by kernel_rfl
  have ht:Lib.TabIs Tryz.prog W "internal/strconv.uint64pow10" .u64 Lib.pow10Tab:=by
   refine Lib.tabIs_of_head (g:=0) (t:=184) (e:=156) (n:=20) hg (by kernel_rfl) (by kernel_rfl) (by kernel_rfl) (by kernel_rfl) (by kernel_rfl) hf
  have ht':=ht;unfold Lib.TabIs World.var? at ht;rw[hg,ga]at ht;cases hb:W.heap[(0:Nat)]? with
  |none=>rw[hb]at ht;cases ht
  |some o=>
   cases o with
   |cells cs T f=>
    rw[hb]at ht;have ht:=Ek ht;refine⟨.Ed _ _ (fun c=> .int .u64 (Lib.pow10Tab.getD c 0)) rfl ?_ (fun c hc=> ?_) (fun c hc=>rfl) (fun c x hx=> ?_),cs,T,f,hb,by rw[ht];rfl⟩
    ·exact V.Za hb
    ·have:=ht'.cell hg c (by exact hc)
     simpa using this
    ·have hp:gB=Lib.pow10Tab.map (fun z=>V.AV.int .u64 z):=rfl;rw[hp,Tb]at hx;obtain⟨z,hz,rfl⟩:=ia.1 hx;simp only[List.getD,hz,Option.getD_some];exact .int _ _
   |_=>rw[hb]at ht;cases ht
 ·cases hm
end Go.U
end
