/- What these Lean functions compute: plain arithmetic of congruences, the checks of a graph, the values of its registers. -/
import Derived.Test.YtjenflkegbmkkaaGreatDoorC1
import Derived.Test.YtjenflkegbmkkaaGreatDoorC0
import Derived.Test.YtjenflkegbmkkaaGreatDoorB4
import Derived.Test.YtjenflkegbmkkaaGreatDoorRows
import Derived.LaidSub
import Derived.MakeChecks
import Derived.Lib.LaidTab
set_option linter.unusedVariables false
set_option linter.unusedSimpArgs false
set_option linter.unusedSectionVars false
open List renaming mem_cons→Vb,mem_cons_self→Fc,mem_cons_of_mem→Ib,getElem?_map→Wb,getElem?_eq_getElem→Aa
open Nat renaming zero_add→Qe
open Option renaming bind_some→ga,map_eq_some_iff→ia
open Option.some renaming injEq→zc,inj→Sj
section
set_option maxRecDepth 100000
namespace Go.U
open Go Go.Proofs
def OI(p:FuncId×Option Func):Prop:=∀fn,p.2=some fn->Tryz.prog.funcs[p.1]?=some fn/\(fn.name== "runtime.NumGoroutine")=false
theorem fn0:∀p∈([]:List (FuncId×Option Func)),OI p:=fun _ h=>by cases h
theorem fc{f:FuncId}{fn:Func}{l:List (FuncId×Option Func)}(h:Tryz.prog.funcs[f]?=some fn) (hn:(fn.name== "runtime.NumGoroutine")=false) (hl:∀p∈l,OI p):∀p∈(f,some fn)::l,OI p:=fun p hp=>by
 rcases Vb.1 hp with rfl|hp
 ·intro fn' e;cases e;exact⟨h,hn⟩
 ·exact hl p hp
theorem Ln{α:Type}{x:α}:∀{l:List (FuncId×Option α)}{f:FuncId},cm none l f=some x->(f,some x)∈l
 |[],f,h=>by simp[cm]at h
 |(g,y)::l,f,h=>by
  unfold cm at h;split at h
  ·rename_i e;subst e;subst h;exact Fc
  ·exact Ib _ (Ln h)
theorem rX:∀p∈Faf,OI p:=
 (fc Tryz.func3 (by kernel_rfl) (fc Tryz.func4 (by kernel_rfl) (fc Tryz.func5 (by kernel_rfl) (fc Tryz.func6 (by kernel_rfl) (fc Tryz.func7 (by kernel_rfl) (fc Tryz.func8 (by kernel_rfl) (fc Tryz.func9 (by kernel_rfl) (fc Tryz.func10 (by kernel_rfl) (fc Tryz.func11 (by kernel_rfl) (fc Tryz.func12 (by kernel_rfl) (fc Tryz.func13 (by kernel_rfl) (fc Tryz.func14 (by kernel_rfl) (fc Tryz.func15 (by kernel_rfl) (fc Tryz.func16 (by kernel_rfl) (fc Tryz.func17 (by kernel_rfl) (fc Tryz.func18 (by kernel_rfl) (fc Tryz.func19 (by kernel_rfl) (fc Tryz.func20 (by kernel_rfl) (fc Tryz.func21 (by kernel_rfl) (fc Tryz.func22 (by kernel_rfl) (fc Tryz.func23 (by kernel_rfl) (fc Tryz.func24 (by kernel_rfl) (fc Tryz.func25 (by kernel_rfl) (fc Tryz.func26 (by kernel_rfl) (fc Tryz.func27 (by kernel_rfl) (fc Tryz.func28 (by kernel_rfl) (fc Tryz.func29 (by kernel_rfl) (fc Tryz.func30 (by kernel_rfl) (fc Tryz.func31 (by kernel_rfl) (fc Tryz.func32 (by kernel_rfl) (fc Tryz.func33 (by kernel_rfl) (fc Tryz.func34 (by kernel_rfl) (fc Tryz.func35 (by kernel_rfl) (fc Tryz.func36 (by kernel_rfl) (fc Tryz.func37 (by kernel_rfl) (fc Tryz.func39 (by kernel_rfl) (fc Tryz.func40 (by kernel_rfl) (fc Tryz.func42 (by kernel_rfl) (fc Tryz.func43 (by kernel_rfl) (fc Tryz.func44 (by kernel_rfl) (fc Tryz.func50 (by kernel_rfl) (fc Tryz.func55 (by kernel_rfl) (fc Tryz.func56 (by kernel_rfl) (fc Tryz.func57 (by kernel_rfl) (fc Tryz.func58 (by kernel_rfl) (fc Tryz.func59 (by kernel_rfl) (fc Tryz.func60 (by kernel_rfl) (fc Tryz.func61 (by kernel_rfl) (fc Tryz.func62 (by kernel_rfl) (fc Tryz.func63 (by kernel_rfl) (fc Tryz.func64 (by kernel_rfl) (fc Tryz.func65 (by kernel_rfl) (fc Tryz.func66 (by kernel_rfl) (fc Tryz.func68 (by kernel_rfl) (fc Tryz.func69 (by kernel_rfl) (fc Tryz.func72 (by kernel_rfl) (fc Tryz.func75 (by kernel_rfl) (fc Tryz.func76 (by kernel_rfl) (fc Tryz.func77 (by kernel_rfl) (fc Tryz.func78 (by kernel_rfl) (fc Tryz.func79 (by kernel_rfl) (fc Tryz.func80 (by kernel_rfl) (fc Tryz.func81 (by kernel_rfl) (fc Tryz.func82 (by kernel_rfl) (fc Tryz.func83 (by kernel_rfl) (fc Tryz.func84 (by kernel_rfl) (fc Tryz.func85 (by kernel_rfl) (fc Tryz.func86 (by kernel_rfl) (fc Tryz.func87 (by kernel_rfl) (fc Tryz.func88 (by kernel_rfl) (fc Tryz.func89 (by kernel_rfl) (fc Tryz.func90 (by kernel_rfl) (fc Tryz.func91 (by kernel_rfl) (fc Tryz.func92 (by kernel_rfl) (fc Tryz.func93 (by kernel_rfl) (fc Tryz.func94 (by kernel_rfl) (fc Tryz.func95 (by kernel_rfl) (fc Tryz.func96 (by kernel_rfl) (fc Tryz.func97 (by kernel_rfl) (fc Tryz.func98 (by kernel_rfl) (fc Tryz.func99 (by kernel_rfl) (fc Tryz.func100 (by kernel_rfl) (fc Tryz.func101 (by kernel_rfl) (fc Tryz.func115 (by kernel_rfl) (fc Tryz.func124 (by kernel_rfl) (fc Tryz.func125 (by kernel_rfl) (fc Tryz.func126 (by kernel_rfl) (fc Tryz.func127 (by kernel_rfl) (fc Tryz.func128 (by kernel_rfl) (fc Tryz.func129 (by kernel_rfl) (fc Tryz.func130 (by kernel_rfl) (fc Tryz.func131 (by kernel_rfl) (fc Tryz.func38 (by kernel_rfl) (fc Tryz.func41 (by kernel_rfl) (fc Tryz.func67 (by kernel_rfl) (fc Tryz.func103 (by kernel_rfl) (fc Tryz.func48 (by kernel_rfl) (fc Tryz.func47 (by kernel_rfl) (fc Tryz.func49 (by kernel_rfl) (fc Tryz.func45 (by kernel_rfl) (fc Tryz.func51 (by kernel_rfl) (fc Tryz.func46 (by kernel_rfl) fn0))))))))))))))))))))))))))))))))))))))))))))))))))))))))))))))))))))))))))))))))))))))))))))))))))))))
theorem qX:V.Gz par:=fun f fn h=>rX _ (Ln h) fn rfl
theorem saa{g:V.Gx}{w:World}{H:V.AH}(hw:V.Yb par.Ra g w H):Lib.TabIs Tryz.prog w "internal/strconv.uint64pow10" .u64 Lib.pow10Tab:=by
 obtain⟨h1,cs,T,f,h2,h3⟩:=hw.Ra 0 rB rfl
 have hg:Tryz.prog.globalNamed "internal/strconv.uint64pow10" =some 0:=by kernel_rfl
 unfold Lib.TabIs World.var?;rw[hg,ga,h2];have hp:rB=Lib.pow10Tab.map (fun z=>V.AV.int .u64 z):=rfl;cases h1 with
 |Bd _ _ vs hs hz hc h1 hv=>
 simp only[zc];refine Array.ext (by simp[h3,hp]) fun i hi hi2=> ?_
 have FL:i<rB.length:=by omega
 have oo:=hc i FL;simp only[World.cell?,h2,Qe]at oo;have e1:cs[i]?=some (vs i):=by simpa using oo
 rw[Array.getElem?_eq_getElem hi]at e1;have hi3:i<Lib.pow10Tab.length:=by simpa[hp]using FL
 have hr:rB[i]?=some (V.AV.int .u64 (Lib.pow10Tab[i])):=by rw[hp,Wb,Aa hi3];rfl
 have au:=hv i _ hr;have e2:cs[i]=vs i:=by simpa using e1
 rw[e2];cases hq:vs i with
 |_=>rw[hq]at au;cases au<;>simp
theorem I2:∀f h,par.ext f=some h->V.Qm par f h/\∃fn,par.fns f=some fn/\fn.body.isSome=true:=fun f h e=>by
 have hm:=Ln (show cm none [(41,some (V.uD 74 5)),(67,some (V.y8 74)),(103,some (V.T6)),(45,some (V.Nw)),(51,some (V.Sm 52 V.qh)),(46,some (V.zo V.Ci))] f=some h from e);rcases Vb.1 hm with e|hm
 ·cases e;exact⟨V.FV (A:=par) (fun b w h=>Tryz.zae b w h) (fun b gb cap n l w h0 h1 h2 h3 h4 h5 h6=>Tryz.yae b gb cap 0 l w h0 h2 h3 h1 h4 h5 h6),Tryz.f41,by kernel_rfl,by kernel_rfl⟩
 ·rcases Vb.1 hm with e|hm
  ·cases e;exact⟨V.x8 (A:=par) (fun b w h0 h1 h2=>Tryz.F3 b w h0 h1 h2) (fun b w h=>Tryz.w8 b w h),Tryz.f67,by kernel_rfl,by kernel_rfl⟩
  ·rcases Vb.1 hm with e|hm
   ·cases e;exact⟨V.S6 (A:=par) (fun g w H hw n h0 h1=>Tryz.internal_strconv_FormatInt_10 n h0 h1 w (saa hw)),Tryz.f103,by kernel_rfl,by kernel_rfl⟩
   ·rcases Vb.1 hm with e|hm
    ·cases e;exact⟨V.NU (A:=par) (fun Tc off cap i j zs w hH hc hm hi hj=>Tryz.slices_Delete_int Tc off cap i j zs w hH hc hm hi hj) (fun p cap w=>Tryz.slices_Delete_int_empty p cap w),Tryz.f45,by kernel_rfl,by kernel_rfl⟩
    ·rcases Vb.1 hm with e|hm
     ·cases e;exact⟨V.eM (A:=par) V.TE (fun Tc off cap zs w h1 h2 h3=>Tryz.iJ Tc off cap zs w h1 h2 h3) (fun p cap w=>Tryz.cM p cap w),Tryz.f51,by kernel_rfl,by kernel_rfl⟩
     ·rcases Vb.1 hm with e|hm
      ·cases e;exact⟨V.gM (A:=par) V.Dx (fun Tc off cap zs w h1 h2 h3=>Tryz.gJ Tc off cap zs w h1 h2 h3) (fun p cap w=>Tryz.slices_Sort_int_none p cap w),Tryz.f46,by kernel_rfl,by kernel_rfl⟩
      ·cases hm
theorem nae:V.lR par:=fun f h e=>by
 obtain⟨h1,fn,h2,h3⟩:=I2 f h e;exact V.G2 qX h2 h3 h1
theorem IU:V.Jr par:=fun f h e args H r H' hh=>by
 have hm:=Ln (show cm none [(41,some (V.uD 74 5)),(67,some (V.y8 74)),(103,some (V.T6)),(45,some (V.Nw)),(51,some (V.Sm 52 V.qh)),(46,some (V.zo V.Ci))] f=some h from e);rcases Vb.1 hm with e|hm
 ·cases e;exact V.YL hh
 ·rcases Vb.1 hm with e|hm
  ·cases e;exact V.SU hh
  ·rcases Vb.1 hm with e|hm
   ·cases e;exact V.HS hh
   ·rcases Vb.1 hm with e|hm
    ·cases e;exact V.iL hh
    ·rcases Vb.1 hm with e|hm
     ·cases e;exact V.zG hh
     ·rcases Vb.1 hm with e|hm
      ·cases e;exact V.AG hh
      ·cases hm
theorem j8:V.jo par:=V.LU (by kernel_rfl)
theorem M6{W:World}(hL:laidMetH Tryz.prog YtjenflkegbmkkaaGreatDoor.Rows.coverLeanUptoRow.laid W):∀i row,par.Ra i=some row->V.yp (ay W) W i row:=fun i row h=>by
 have hm:=Ln (show cm none [(0,some rB)] i=some row from h);rcases Vb.1 hm with e|hm
 ·cases e
  have hf:=hL.filter fun x=>x.1== "internal/strconv.uint64pow10"
  have e:(YtjenflkegbmkkaaGreatDoor.Rows.coverLeanUptoRow.laid.filter fun x=>x.1== "internal/strconv.uint64pow10")=[("internal/strconv.uint64pow10",Lib.tabData .u64 Lib.pow10Tab)]:=by kernel_rfl
  rw[e]at hf
  have hf:laidMet Tryz.prog [("internal/strconv.uint64pow10",Lib.tabData .u64 Lib.pow10Tab)] W:=hf
  have hg:Tryz.prog.globalNamed "internal/strconv.uint64pow10" =some 0:=by kernel_rfl
  have ht:Lib.TabIs Tryz.prog W "internal/strconv.uint64pow10" .u64 Lib.pow10Tab:=by
   refine Lib.tabIs_of_head (g:=0) (t:=184) (e:=156) (n:=20) hg (by kernel_rfl) (by kernel_rfl) (by kernel_rfl) (by kernel_rfl) (by kernel_rfl) hf
  have ht':=ht;unfold Lib.TabIs World.var? at ht;rw[hg,ga]at ht;cases hb:W.heap[(0:Nat)]? with
  |none=>rw[hb]at ht;cases ht
  |some o=>
   cases o with
   |cells cs T f=>
    rw[hb]at ht;have ht:=Sj ht;refine⟨.Bd _ _ (fun c=> .int .u64 (Lib.pow10Tab.getD c 0)) rfl ?_ (fun c hc=> ?_) (fun c hc=>rfl) (fun c x hx=> ?_),cs,T,f,hb,by rw[ht];rfl⟩
    ·exact V.Xa hb
    ·have:=ht'.cell hg c (by exact hc)
     simpa using this
    ·have hp:rB=Lib.pow10Tab.map (fun z=>V.AV.int .u64 z):=rfl;rw[hp,Wb]at hx;obtain⟨z,hz,rfl⟩:=ia.1 hx;simp only[List.getD,hz,Option.getD_some];exact .int _ _
   |_=>rw[hb]at ht;cases ht
 ·cases hm
end Go.U
end
