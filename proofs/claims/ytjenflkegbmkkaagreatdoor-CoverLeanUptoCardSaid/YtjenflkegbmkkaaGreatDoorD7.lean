/- What these Lean functions compute: plain arithmetic of congruences, the checks of a graph, the values of its registers. -/
import Derived.Test.YtjenflkegbmkkaaGreatDoorD6
import Derived.Test.YtjenflkegbmkkaaGreatDoorB4
set_option linter.unusedVariables false
set_option linter.unusedSimpArgs false
set_option linter.unusedSectionVars false
open List renaming mem_cons_self→Fc,mem_cons_of_mem→Ib,nodup_append→dA,foldl_cons→Og,mem_cons→Vb,range→ua,replicate→Ba,getD_eq_getElem?_getD→Ka,getElem?_replicate→Wi,mem_of_getElem?→Db
open Nat renaming zero_le→fe,le_trans→Gb
section
set_option maxRecDepth 20000
namespace Go.U
open Go
theorem As{α:Type}[DecidableEq α]:∀(l L:List α),l.Nodup->(∀x∈l,x∈L)->l.length<=L.length
 |[],L,_,_=>fe _
 |a::l,L,hn,hs=>by
  obtain⟨h1,h2⟩:=List.nodup_cons.1 hn;have ha:=hs a Fc;have:=As l (L.erase a) h2 fun x hx=>(List.mem_erase_of_ne (fun e=>h1 (by rw[<- e];exact hx))).2 (hs x (Ib _ hx))
  have h3:=List.length_erase_of_mem ha;have:0<L.length:=List.length_pos_of_mem ha;rw[List.length_cons];omega
theorem eF{l:List za}{e:za}:e∈qh l↔e∈l:=(V.Df Mt l).mem_iff
theorem yJ{l:List za}(h:l.Nodup):(qh l).Nodup:=(V.Df Mt l).nodup_iff.2 h
theorem oW{l:List za}{e x:za}:x∈Yl l e↔x∈l\/x=e:=by
 unfold Yl;split
 ·rename_i h;exact⟨.inl,fun hh=>hh.elim id fun e=>e ▸ h⟩
 ·simp
theorem rM{l:List za}{e:za}(h:l.Nodup):(Yl l e).Nodup:=by
 unfold Yl;split
 ·exact h
 ·rename_i hn;rw[dA];exact⟨h,by simp,fun a ha b hb=>by simp at hb;subst hb;exact fun e=>hn (e ▸ ha)⟩
theorem Jn{x:za}:∀{es l:List za},x∈es.foldl Yl l↔x∈l\/x∈es
 |[],l=>by simp
 |e::es,l=>by rw[Og,Jn,oW,Vb];exact or_assoc
theorem Wy:∀{es l:List za},l.Nodup->(es.foldl Yl l).Nodup
 |[],l,h=>h
 |e::es,l,h=>by rw[Og];exact Wy (rM h)
def Z3(g:Ga)(e:za):Prop:=∃j,j<g.1.length/\e.1=(at' g j).2.2.2.2.2.1/\1<=e.2/\e.2<=5
structure Cov(g:Ga)(c:Pa):Prop where
 p:c.1.length=g.1.length
 w:c.2.1.length=g.1.length
 nd:c.2.2.Nodup
 e:∀x∈c.2.2,Z3 g x
def ZN(g:Ga):List za:=(ua g.1.length).flatMap fun j=>[((at' g j).2.2.2.2.2.1,1),((at' g j).2.2.2.2.2.1,2),((at' g j).2.2.2.2.2.1,3),((at' g j).2.2.2.2.2.1,4),((at' g j).2.2.2.2.2.1,5)]
theorem BC(g:Ga):(ZN g).length=g.1.length * 5:=by
 unfold ZN;rw[List.length_flatMap];generalize g.1.length=n;induction n with
 |zero=>rfl
 |succ n ih=>rw[List.range_succ,List.map_append,List.sum_append,ih];simp;omega
theorem Z3.mem{g:Ga}{e:za}(h:Z3 g e):e∈ZN g:=by
 obtain⟨j,hj,h1,h2,h3⟩:=h;obtain⟨a,b⟩:=e;simp only at h1 h2 h3;subst h1;refine List.mem_flatMap.2 ⟨j,List.mem_range.2 hj,?_⟩;obtain rfl|rfl|rfl|rfl|rfl:b=1\/b=2\/b=3\/b=4\/b=5:=by omega
 all_goals simp
theorem Cov.ok{g:Ga}{D:List Int}(hF:Gf g D){c:Pa}(h:Cov g c):fk g.1.length c:=⟨h.p,h.w,by
 have:=As _ _ h.nd fun x hx=>(h.e x hx).mem
 have:=BC g;have:=hF.N;omega⟩
theorem Cov.join{g:Ga}{a b:Pa}(ha:Cov g a)(hb:Cov g b):Cov g (vf a b):=⟨by simp[vf,Xp,ha.p,hb.p],by simp[vf,sn,ha.w,hb.w],yJ (Wy ha.nd),fun x hx=>by
 rcases Jn.1 (eF.1 hx)with h|h
 ·exact ha.e x h
 ·exact hb.e x h⟩
theorem YR(g:Ga):Cov g (oe g):=⟨by simp[oe],by simp[oe],by simp[oe],fun x hx=>by simp[oe]at hx⟩
section
variable {g:Ga}{D:List Int}{sc:List Int}
theorem I5(hF:Gf g D)(hs:sc.length<=9223372036854775807){fu:Int}(vi:fu<=1000000):(ls g sc fu).en≠0/\Inv g sc (ls g sc fu)/\J1 g (C4 g sc fu):=by
 obtain⟨rk,hr,hI,hm⟩:=lM (sc:=sc) hF vi;obtain⟨_,w2,w3,w4⟩:=walk (S:=bn.m (vJ g [] sc)) HC HC (Cj g) (J1 g) hF (fun o m h ha=>h.next ha.2) (fun o m hI hJ=>QO hF hs hI hJ []) hr hI (iW hF) hm;exact⟨w2,w3,w4⟩
theorem B3(hF:Gf g D)(hs:sc.length<=9223372036854775807){fu:Int}(vi:fu<=1000000):Cov g (MC g sc fu):=by
 obtain⟨h1,h2,h3⟩:=I5 hF hs vi;refine⟨h3.pl,h3.wl,?_,fun x hx=> ?_⟩
 ·unfold MC;simp only;split<;>simp
 ·unfold MC at hx;simp only at hx;split at hx
  ·rename_i he;simp at hx;subst hx;exact h2.er he
  ·simp at hx
def S3(l:List (List Int)):Prop:=l.length<=9223372036854775807/\∀i,i<l.length->(gx l i []).length<=9223372036854775807
theorem S3.mem{l:List (List Int)}(h:S3 l){s:List Int}(hs:s∈l):s.length<=9223372036854775807:=by
 obtain⟨i,hi⟩:=List.mem_iff_getElem?.1 hs;have:=h.2 i (Xa hi)
 rwa [Vv hi]at this
theorem mae(fu:Int):∃r,aG fu=some r/\r<=250:=by
 unfold aG VQ;by_cases h:200<fu
 ·have h1:=Int.tmod_lt_of_pos fu (show(0:Int)<50 by decide);have h2:=Int.tmod_nonneg 50 (show 0<=fu by omega);have d:¬(50:Int)=0:=by decide
  refine⟨Ea (200+Int.tmod fu 50),?_,?_⟩
  ·simp[h]
  ·rw[Lb (by omega) (by omega)];omega
 ·exact⟨fu,by simp[h],by omega⟩
end
end Go.U
end
section
set_option maxRecDepth 20000
namespace Go.U
open Go
theorem Z_:IS ()=some true:=by kernel_rfl
section
variable {g:Ga}{D:List Int}{sc:List Int}
structure Cl(o:LL):Prop where
 w:∀i,gx o.2.1 i false=false->gx o.2.2.1 i (false,false)=(false,false)
 l:0<=o.1->gx o.2.1 o.1.toNat false=true
theorem Cl.next{o:LL}{m:M}(hJ:J1 g o)(h:Cl o)(h0:0<=m.at_/\m.at_<(g.1.length:Int)):Cl (Cj g o m):=by
 have hp:m.at_.toNat<o.2.1.length:=by rw[hJ.pl];omega
 refine⟨fun i hi=> ?_,fun _=>by simp only[Cj];rw[Ym hp,if_pos rfl]⟩;simp only[Cj]at hi ⊢;rw[Ym hp]at hi;by_cases e:m.at_.toNat=i
 ·rw[if_pos e]at hi;cases hi
 ·rw[if_neg e]at hi;by_cases hl:0<=o.1
  ·rw[if_pos hl,Ym (by rw[hJ.wl];have:=hJ.la;omega)];by_cases e2:o.1.toNat=i
   ·have:=h.l hl;rw[e2,hi]at this;cases this
   ·rw[if_neg e2];exact h.w i hi
  ·rw[if_neg hl];exact h.w i hi
theorem eH{α:Type}{n i:Nat}{d:α}:gx (Ba n d) i d=d:=by
 simp only[gx,Ka,Wi];split<;>rfl
end
end Go.U
end
section
set_option maxRecDepth 20000
namespace Go.U
open Go
theorem Haf{S:Nat}{n:Int}(h:XE S (.int .i64) n): -9223372036854775808<=n/\n<=9223372036854775807:=by
 have e1:IntKind.i64.min= -9223372036854775808:=by decide
 have e2:IntKind.i64.max=9223372036854775807:=by decide
 obtain⟨h1,h2⟩:=h;rw[e1]at h1;rw[e2]at h2;exact⟨h1,h2⟩
theorem fF:maxLen=9223372036854775807:=by decide
theorem Jaa{g:Ga}{j:Nat}(h:j<g.1.length):at' g j∈g.1:=Db (Li (d:=Ta) h)
theorem R5{S:Nat}(hS:S<=maxLen){g:Ga}(h:XE S Iy g):J8 g:=by
 obtain⟨⟨⟨hi,_⟩,hi2⟩,_,_,_,⟨⟨ha,_⟩,ZW⟩,⟨⟨hs,_⟩,_⟩,⟨⟨hn,_⟩,_⟩,⟨hl,_⟩,_⟩:=h;rw[fF]at hS;have hi:=Gb hi hS;have ha:=Gb ha hS;have hs:=Gb hs hS;have hn:=Gb hn hS;have hl:=Gb hl hS;refine⟨hi,hs,ha,hn,hl,fun j hj=> ?_⟩;obtain⟨_,h2,_⟩:=hi2 _ (Jaa hj);exact Haf h2
theorem Laa{S:Nat}(hS:S<=maxLen){l:List Int}(h:XE S (.slice (.int .i64)) l):l.length<=9223372036854775807:=by
 rw[fF]at hS;exact Gb h.1.1 hS
end Go.U
end
