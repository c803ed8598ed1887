/- What these Lean functions compute: plain arithmetic of congruences, the checks of a graph, the values of its registers. -/
import Derived.Test.YtjenflkegbmkkaaGreatDoorD6
import Derived.Test.YtjenflkegbmkkaaGreatDoorB4
set_option linter.unusedVariables false
set_option linter.unusedSimpArgs false
set_option linter.unusedSectionVars false
open Int renaming toNat_natCast→La,lt_irrefl→Xb
open List renaming mem_cons_self→Ad,mem_cons_of_mem→Wb,length_cons→Jb,nodup_append→Sw,foldl_cons→Ve,mem_cons→Yb,range→ua,foldl_append→Qz,foldl_nil→Tw,take_length→Af,mem_of_getElem?→Nb
open Nat renaming zero_le→je,le_trans→Ib
open Option renaming bind_some→ga
section
set_option maxRecDepth 20000
namespace Go.U
open Go
theorem Bx{α:Type}[DecidableEq α]:∀(l L:List α),l.Nodup->(∀x∈l,x∈L)->l.length<=L.length
 |[],L,_,_=>je _
 |a::l,L,hn,hs=>by
  obtain⟨h1,h2⟩:=List.nodup_cons.1 hn;have ha:=hs a Ad;have:=Bx l (L.erase a) h2 fun x hx=>(List.mem_erase_of_ne (fun e=>h1 (by rw[<- e];exact hx))).2 (hs x (Wb _ hx))
  have h3:=List.length_erase_of_mem ha;have:0<L.length:=List.length_pos_of_mem ha;rw[Jb];omega
theorem FE{l:List Aa}{e:Aa}:e∈Mh l↔e∈l:=(V.Lh Ft l).mem_iff
theorem QI{l:List Aa}(h:l.Nodup):(Mh l).Nodup:=(V.Lh Ft l).nodup_iff.2 h
theorem tV{l:List Aa}{e x:Aa}:x∈Qo l e↔x∈l\/x=e:=by
 unfold Qo;split
 ·rename_i h;exact⟨.inl,fun hh=>hh.elim id fun e=>e ▸ h⟩
 ·simp
theorem CL{l:List Aa}{e:Aa}(h:l.Nodup):(Qo l e).Nodup:=by
 unfold Qo;split
 ·exact h
 ·rename_i hn;rw[Sw];exact⟨h,by simp,fun a ha b hb=>by simp at hb;subst hb;exact fun e=>hn (e ▸ ha)⟩
theorem Dx{x:Aa}:∀{es l:List Aa},x∈es.foldl Qo l↔x∈l\/x∈es
 |[],l=>by simp
 |e::es,l=>by rw[Ve,Dx,tV,Yb];exact or_assoc
theorem My:∀{es l:List Aa},l.Nodup->(es.foldl Qo l).Nodup
 |[],l,h=>h
 |e::es,l,h=>by rw[Ve];exact My (CL h)
def T1(g:Ga)(e:Aa):Prop:=∃j,j<g.1.length/\e.1=(at' g j).2.2.2.2.2.1/\1<=e.2/\e.2<=5
structure Cov(g:Ga)(c:vb):Prop where
 p:c.1.length=g.1.length
 w:c.2.1.length=g.1.length
 nd:c.2.2.Nodup
 e:∀x∈c.2.2,T1 g x
def mN(g:Ga):List Aa:=(ua g.1.length).flatMap fun j=>[((at' g j).2.2.2.2.2.1,1),((at' g j).2.2.2.2.2.1,2),((at' g j).2.2.2.2.2.1,3),((at' g j).2.2.2.2.2.1,4),((at' g j).2.2.2.2.2.1,5)]
theorem kC(g:Ga):(mN g).length=g.1.length * 5:=by
 unfold mN;rw[List.length_flatMap];generalize g.1.length=n;induction n with
 |zero=>rfl
 |succ n ih=>rw[List.range_succ,List.map_append,List.sum_append,ih];simp;omega
theorem T1.mem{g:Ga}{e:Aa}(h:T1 g e):e∈mN g:=by
 obtain⟨j,hj,h1,h2,h3⟩:=h;obtain⟨a,b⟩:=e;simp only at h1 h2 h3;subst h1;refine List.mem_flatMap.2 ⟨j,List.mem_range.2 hj,?_⟩;obtain rfl|rfl|rfl|rfl|rfl:b=1\/b=2\/b=3\/b=4\/b=5:=by omega
 all_goals simp
theorem Cov.ok{g:Ga}{D:List Int}(hF:Mf g D){c:vb}(h:Cov g c):Ti g.1.length c:=⟨h.p,h.w,by
 have:=Bx _ _ h.nd fun x hx=>(h.e x hx).mem
 have:=kC g;have:=hF.N;omega⟩
theorem Cov.join{g:Ga}{a b:vb}(ha:Cov g a)(hb:Cov g b):Cov g (uj a b):=⟨by simp[uj,Dt,ha.p,hb.p],by simp[uj,Cr,ha.w,hb.w],QI (My ha.nd),fun x hx=>by
 rcases Dx.1 (FE.1 hx)with h|h
 ·exact ha.e x h
 ·exact hb.e x h⟩
theorem Er(g:Ga):Cov g (af g):=⟨by simp[af],by simp[af],by simp[af],fun x hx=>by simp[af]at hx⟩
section
variable {g:Ga}{D:List Int}{sc:List Int}
theorem R3(hF:Mf g D)(hs:sc.length<=9223372036854775807){fu:Int}(Ll:fu<=1000000):(ls g sc fu).en≠0/\Inv g sc (ls g sc fu)/\J1 g (B2 g sc fu):=by
 obtain⟨rk,hr,hI,hm⟩:=wL (sc:=sc) hF Ll;obtain⟨_,w2,w3,w4⟩:=walk (S:=Jm.m (NI g [] sc)) qC qC (sj g) (J1 g) hF (fun o m h ha=>h.next ha.2) (fun o m hI hJ=>ZN hF hs hI hJ []) hr hI (pV hF) hm;exact⟨w2,w3,w4⟩
theorem Dw(hF:Mf g D)(hs:sc.length<=9223372036854775807){fu:Int}(Ll:fu<=1000000):Cov g (Ew g sc fu):=by
 obtain⟨h1,h2,h3⟩:=R3 hF hs Ll;refine⟨h3.pl,h3.wl,?_,fun x hx=> ?_⟩
 ·unfold Ew;simp only;split<;>simp
 ·unfold Ew at hx;simp only at hx;split at hx
  ·rename_i he;simp at hx;subst hx;exact h2.er he
  ·simp at hx
def O7(g:Ga)(Nf:List (List Int))(fu:Int):vb:=Nf.foldl (fun c s=>uj c (Ew g s fu)) (af g)
def HC(l:List (List Int)):Prop:=l.length<=9223372036854775807/\∀i,i<l.length->(gx l i []).length<=9223372036854775807
theorem Rx(hF:Mf g D){fu:Int}(Ll:fu<=1000000):∀(l:List (List Int))(c:vb),(∀s∈l,s.length<=9223372036854775807)->Cov g c->Cov g (l.foldl (fun c s=>uj c (Ew g s fu)) c)
 |[],c,_,h=>h
 |s::l,c,hl,h=>Rx hF Ll l _ (fun x hx=>hl x (Wb _ hx)) (h.join (Dw hF (hl s Ad) Ll))
theorem HC.mem{l:List (List Int)}(h:HC l){s:List Int}(hs:s∈l):s.length<=9223372036854775807:=by
 obtain⟨i,hi⟩:=List.mem_iff_getElem?.1 hs;have:=h.2 i (Za hi)
 rwa [QE hi]at this
theorem qad(hF:Mf g D){fu:Int}(Ll:fu<=1000000){l:List (List Int)}(hl:HC l):vp (g,l,fu)=some (O7 g l fu):=by
 have hn:=hl.1;unfold vp gQ;simp only;rw[DH hF,ga];have hc:∀i,Cov g ((l.take i).foldl (fun c s=>uj c (Ew g s fu)) (af g)):=fun i=>Rx hF Ll _ _ (fun s hs=>hl.mem (List.mem_of_mem_take hs)) (Er g)
 have:=Xc (step:=Mq.m (fu,l,nt l.length,g)) (n:=l.length) (fun i=>((i:Int),(l.take i).foldl (fun c s=>uj c (Ew g s fu)) (af g))) (O7 g l fu) (by omega) (fun t=>l.length-t.1.toNat) (fun i _=>by simp) (fun i hi=>by
  have h':(i:Int)<(l.length:Int):=by omega
  have w:Ea ((i:Int)+1)=((i+1:Nat):Int):=by rw[Qb (by omega) (by omega)];rfl
  have h1:=pac (g:=g) hF (hl.2 i hi) Ll;have h2:=Yac hF.N ((hc i).ok hF) ((Dw hF (hl.2 i hi) Ll).ok hF);simp only[LD.m,Mq,nt,h',decide_true,cond_true,fg hi,Oa,La,w];rw[h1,ga,h2,ga,If [] hi,Qz,Ve,Tw]) (by
  simp only[LD.m,Mq,nt,Xb,decide_false,cond_false,Af];rfl)
 have Up:Ma (Mq.m (fu,l,nt l.length,g)) (0,(af g).1,(af g).2.1,(af g).2.2)=some (O7 g l fu):=this;rw[Up,ga]
theorem xad(fu:Int):∃r,yF fu=some r/\r<=250:=by
 unfold yF kQ;by_cases h:200<fu
 ·have h1:=Int.tmod_lt_of_pos fu (show(0:Int)<50 by decide);have h2:=Int.tmod_nonneg 50 (show 0<=fu by omega);have d:¬(50:Int)=0:=by decide
  refine⟨Ea (200+Int.tmod fu 50),?_,?_⟩
  ·simp[h]
  ·rw[Qb (by omega) (by omega)];omega
 ·exact⟨fu,by simp[h],by omega⟩
end
end Go.U
end
section
set_option maxRecDepth 20000
namespace Go.U
open Go
theorem l_:WR ()=some true:=by kernel_rfl
section
variable {g:Ga}{D:List Int}{sc:List Int}
structure Cl(o:UK):Prop where
 w:∀i,gx o.2.1 i false=false->gx o.2.2.1 i (false,false)=(false,false)
 l:0<=o.1->gx o.2.1 o.1.toNat false=true
theorem Cl.next{o:UK}{m:M}(hJ:J1 g o)(h:Cl o)(h0:0<=m.at_/\m.at_<(g.1.length:Int)):Cl (sj g o m):=by
 have hp:m.at_.toNat<o.2.1.length:=by rw[hJ.pl];omega
 refine⟨fun i hi=> ?_,fun _=>by simp only[sj];rw[ou hp,if_pos rfl]⟩;simp only[sj]at hi ⊢;rw[ou hp]at hi;by_cases e:m.at_.toNat=i
 ·rw[if_pos e]at hi;cases hi
 ·rw[if_neg e]at hi;by_cases hl:0<=o.1
  ·rw[if_pos hl,ou (by rw[hJ.wl];have:=hJ.la;omega)];by_cases e2:o.1.toNat=i
   ·have:=h.l hl;rw[e2,hi]at this;cases this
   ·rw[if_neg e2];exact h.w i hi
  ·rw[if_neg hl];exact h.w i hi
end
end Go.U
end
section
set_option maxRecDepth 20000
namespace Go.U
open Go
theorem Pae{S:Nat}{n:Int}(h:AE S (.int .i64) n): -9223372036854775808<=n/\n<=9223372036854775807:=by
 have e1:IntKind.i64.min= -9223372036854775808:=by decide
 have e2:IntKind.i64.max=9223372036854775807:=by decide
 obtain⟨h1,h2⟩:=h;rw[e1]at h1;rw[e2]at h2;exact⟨h1,h2⟩
theorem Hx:maxLen=9223372036854775807:=by decide
theorem T_{g:Ga}{j:Nat}(h:j<g.1.length):at' g j∈g.1:=Nb (gp (d:=Ta) h)
theorem C4{S:Nat}(hS:S<=maxLen){g:Ga}(h:AE S yy g):x7 g:=by
 obtain⟨⟨⟨hi,_⟩,hi2⟩,_,_,_,⟨⟨ha,_⟩,gW⟩,⟨⟨hs,_⟩,_⟩,⟨⟨hn,_⟩,_⟩,⟨hl,_⟩,_⟩:=h;rw[Hx]at hS;have hi:=Ib hi hS;have ha:=Ib ha hS;have hs:=Ib hs hS;have hn:=Ib hn hS;have hl:=Ib hl hS;refine⟨hi,hs,ha,hn,hl,fun j hj=> ?_⟩;obtain⟨_,h2,_⟩:=hi2 _ (T_ hj);exact Pae h2
theorem V_{S:Nat}(hS:S<=maxLen){l:List Int}(h:AE S (.slice (.int .i64)) l):l.length<=9223372036854775807:=by
 rw[Hx]at hS;exact Ib h.1.1 hS
end Go.U
end
