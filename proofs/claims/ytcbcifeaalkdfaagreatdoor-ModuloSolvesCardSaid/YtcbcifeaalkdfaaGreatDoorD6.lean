/- What these Lean functions compute: plain arithmetic of congruences, the checks of a graph, the values of its registers. -/
import Derived.Test.YtcbcifeaalkdfaaGreatDoorD5
import Derived.Test.YtcbcifeaalkdfaaGreatDoorD4
set_option linter.unusedVariables false
set_option linter.unusedSimpArgs false
set_option linter.unusedSectionVars false
open Bool renaming false_eq_true→Xb,false_and→Cq,and_eq_true→Ab,not_false→Sb,not_true→Ub,true_and→Od
open Classical renaming byContradiction→kq
open Int renaming le_refl→Bd,lt_irrefl→Tb,toNat_natCast→Pa,toNat→ia
open List renaming getElem?_eq_none→Nb,mem_of_getElem?→Eb,set→Wb,length_set→Wa,length→fa,countP→Xc,countP_cons→KF,getD→Qi,getElem?_append_left→Ja,getElem?_append_right→Oa,getElem?_take→Jb,length_append→oe,length_singleton→nc,length_take→je,mem_append→jh,mem_append_left→we,countP_le_length→Rd,length_nil→Om,length_eq_zero_iff→Gb,replicate→fb,length_replicate→Nv,all_eq_true→ec,mem_range→jg,range→mb,mem_cons→me,mem_cons_self→Dd,mem_cons_of_mem→Rb
open Nat renaming lt_or_ge→dc,not_lt_zero→Td,le_refl→ya,zero_le→Ac,succ_mul→Lj,mul_le_mul_right→Vc,le_of_lt→js,le_trans→Db
open Option renaming bind_some→da
open Sum renaming elim_inr→zi
section
set_option maxRecDepth 20000
namespace Go.U
open Go
theorem Ty{α:Type}{l:List α}{x:α}(d:α):x∈l↔∃q,q<l.length/\gx l q d=x:=by
 constructor
 ·intro h;obtain⟨q,hq⟩:=List.mem_iff_getElem?.1 h;have hl:q<l.length:=by
   rcases dc q l.length with h|h
   ·exact h
   ·rw[Nb h]at hq;cases hq
  exact⟨q,hl,by have:=ym (d:=d) hl;rw[hq]at this;injection this with this;exact this.symm⟩
 ·rintro⟨q,hq,rfl⟩
  exact Eb (ym hq)
theorem xY{l:List Int}{i j:Nat}(hi:i<l.length)(hj:j<l.length)(x:Int):x∈Wb (Wb l i (gx l j 0)) j (gx l i 0)↔x∈l:=by
 rw[Ty 0,Ty 0];simp only[Wa];constructor
 ·rintro⟨q,hq,e⟩
  rw[Nc (by simpa using hj)]at e;split at e
  ·exact⟨i,hi,e⟩
  ·rw[Nc hi]at e;split at e
   ·exact⟨j,hj,e⟩
   ·exact⟨q,hq,e⟩
 ·rintro⟨q,hq,e⟩
  by_cases h1:q=i
  ·subst h1;exact⟨j,hj,by rw[Nc (by simpa using hj),if_pos rfl];exact e⟩
  ·by_cases h2:q=j
   ·subst h2;exact⟨i,hi,by rw[Nc (by simpa using hj),if_neg (λe=>h1 e),Nc hi,if_pos rfl];exact e⟩
   ·exact⟨q,hq,by rw[Nc (by simpa using hj),if_neg (λe=>h2 e.symm),Nc hi,if_neg (λe=>h1 e.symm)];exact e⟩
theorem jaa{l:List Int}(hn:l.length<=1048576):∃r,Ez l=some r/\r.length=l.length/\∀x,x∈r↔x∈l:=by
 unfold Ez mJ;simp only[nt];rw[Ya (n:=(l.length:Int)-1) (by omega) (by omega)];obtain⟨e,h1,h2⟩:=Gc (step:=Dx.m ()) (t:=(0,(l.length:Int)-1,l)) (λt=>0<=t.1/\t.1<=1048576/\t.1+t.2.1=(l.length:Int)-1/\t.2.2.length=l.length/\∀x,x∈t.2.2↔x∈l) (λt=>(t.2.1+1).toNat) (λe=>e.length=l.length/\∀x,x∈e↔x∈l)
  ⟨by show(0:Int)<=0;decide,by show(0:Int)<=1048576;decide,by simp,rfl,λ_=>Iff.rfl⟩ (by simp only;omega) (λt⟨a1,a2,a3,a4,a5⟩=>by
   obtain⟨i,j,r⟩:=t;simp only at a1 a2 a3 a4 a5;simp only[LD.m,Dx];by_cases h:i<j
   ·have b1:V.ua j r.length=true:=Sd (by omega) (by omega);have b2:V.ua i r.length=true:=Sd a1 (by omega);have b3:V.ua j (fa (Wb r i.toNat (gx r j.toNat (0:Int))))=true:=Sd (by omega) (by rw[Wa];omega);simp only[h,decide_true,cond_true,b1,b2,b3,Fa];rw[Ya (n:=i+1) (by omega) (by omega),Ya (n:=j-1) (by omega) (by omega)];exact .inl ⟨_,rfl,⟨by simp only;omega,by simp only;omega,by simp only;omega,by simp[a4],λx=>(xY (by omega) (by omega) x).trans (a5 x)⟩,by simp only;omega⟩
   ·simp only[h,decide_false,cond_false];exact .inr ⟨_,rfl,a4,a5⟩)
 rw[h1];exact⟨_,rfl,h2⟩
theorem Mi{α:Type}{p:α->Bool}{d a:α}:∀{l:List α}{i:Nat},i<l.length->Xc p (l.set i a)+(if p (gx l i d)=true then 1 else 0)=Xc p l+(if p a=true then 1 else 0)
 |x::l,0,_=>by
  rw[List.set_cons_zero,KF,KF];show _+(if p x=true then 1 else 0)=_;omega
 |x::l,i+1,h=>by
  have:=Mi (p:=p) (d:=d) (a:=a) (l:=l) (i:=i) (by simpa using h);rw[List.set_cons_succ,KF,KF];show _+(if p (gx l i d)=true then 1 else 0)=_;omega
def Ue(g:Ba)(j:Nat)(k:Int):Int:=if k=0 then(at' g j).2.2.2.2.2.2.1 else(at' g j).2.2.2.2.2.2.2
def Cl(g:Ba)(C:Int->Prop):Prop:=C 0/\∀x,C x->∀k:Int,k=0\/k=1->0<=Ue g x.toNat k->C (Ue g x.toNat k)
structure Ij(g:Ba)(l:List Int):Prop where
 n:l.length<=4096
 dO:∀x∈l,0<=x/\x<(g.1.length:Int)
 z:(0:Int)∈l
 cl:∀x∈l,∀k:Int,k=0\/k=1->0<=Ue g x.toNat k->Ue g x.toNat k∈l
 mn:∀C,Cl g C->∀x∈l,C x
section
variable {g:Ba}{D:List Int}
def seen(M:List Uf)(x:Int):Prop:=0<=x/\x<(M.length:Int)/\(gx M x.toNat Ge).1=true
structure DI(g:Ba)(O:List Int)(M:List Uf)(S:List Kd):Prop where
 len:M.length=g.1.length
 st:∀q,q<S.length->seen M (gx S q We).1/\0<=(gx S q We).2/\(gx S q We).2<=2/\∀k:Int,0<=k->k<(gx S q We).2->0<=Ue g (gx S q We).1.toNat k->seen M (Ue g (gx S q We).1.toNat k)
 ord:∀x∈O,seen M x/\∀k:Int,k=0\/k=1->0<=Ue g x.toNat k->seen M (Ue g x.toNat k)
 ZQ:∀x,seen M x->x∈O\/∃q,q<S.length/\(gx S q We).1=x
 FF:O.length+S.length=Xc (λm:Uf=>m.1) M
 dn:∀j,j<M.length->(gx M j Ge).1=false->(gx M j Ge).2=false
 z:seen M 0
 mn:∀C,Cl g C->∀x,seen M x->C x
theorem dL{M:List Uf}{i:Nat}{m:Uf}(hi:i<M.length)(hm:(gx M i Ge).1=true->m.1=true){x:Int}(h:seen M x):seen (M.set i m) x:=by
 obtain⟨h1,h2,h3⟩:=h;refine⟨h1,by rw[Wa];exact h2,?_⟩;rw[Nc hi];split
 ·rename_i e;rw[<- e]at h3;exact hm h3
 ·exact h3
theorem cm{M:List Uf}{i:Nat}{m:Uf}(hi:i<M.length){x:Int}(h:seen (M.set i m) x):seen M x\/(x=(i:Int)/\m.1=true):=by
 obtain⟨h1,h2,h3⟩:=h;rw[Wa]at h2;rw[Nc hi]at h3;split at h3
 ·rename_i e;exact .inr ⟨by omega,h3⟩
 ·exact .inl ⟨h1,h2,h3⟩
theorem YO{α:Type}{l:List α}{a d:α}{q:Nat}:gx (l++[a]) q d=if q<l.length then gx l q d else if q=l.length then a else d:=by
 simp only[gx,Qi];by_cases h:q<l.length
 ·rw[if_pos h,Ja h]
 ·rw[if_neg h,Oa (by omega)];by_cases e:q=l.length
  ·rw[if_pos e];subst e;simp
  ·rw[if_neg e];have:q-l.length≠0:=by omega
   rw[Nb (by simp;omega)];rfl
theorem wS{α:Type}{l:List α}{d:α}{i q:Nat}(h:q<i):gx (l.take i) q d=gx l q d:=by
 simp only[gx,Qi,Jb,if_pos h]
theorem DI.push{O:List Int}{M:List Uf}{S:List Kd}(h:DI g O M S){i:Nat}(hi:i+1=S.length){k n:Int}(hk:0<=k)(b9:k<=1)(hs:∀j:Int,0<=j->j<k->0<=Ue g (gx S i We).1.toNat j->seen M (Ue g (gx S i We).1.toNat j))(hn:Ue g (gx S i We).1.toNat k=n)(JO:0<=n)(n_:n<(g.1.length:Int))(hw:(gx M n.toNat Ge).1=false):
  DI g O (M.set n.toNat (true,(gx M n.toNat Ge).2)) ((S.set i ((gx S i We).1,k+1))++[(n,0)]):=by
 have hl:=h.len;have m_:n.toNat<M.length:=by omega
 have mono:∀{x:Int},seen M x->seen (M.set n.toNat (true,(gx M n.toNat Ge).2)) x:=λhx=>dL m_ (λ_=>rfl) hx
 have sn:seen (M.set n.toNat (true,(gx M n.toNat Ge).2)) n:=⟨JO,by rw[Wa];omega,by rw[Nc m_,if_pos rfl]⟩;refine⟨by rw[Wa];exact hl,λq hq=> ?_,λx hx=>⟨mono (h.ord x hx).1,λj hj h0=>mono ((h.ord x hx).2 j hj h0)⟩,λx hx=> ?_,?_,λj hj ZL=> ?_,mono h.z,λC hC x hx=>(cm m_ hx).elim (h.mn C hC x) λ⟨e,_⟩=>by
  have:=hC.2 _ (h.mn C hC _ (h.st i (by omega)).1) k (by omega) (by rw[hn];exact JO);rw[hn]at this;have e:x=n:=by omega
  rw[e];exact this⟩
 ·rw[oe,Wa,nc]at hq;rw[YO,Wa];by_cases hqS:q<S.length
  ·rw[if_pos hqS,Nc (by omega)];by_cases e:i=q
   ·subst e;rw[if_pos rfl];refine⟨mono (h.st i hqS).1,by simp only;omega,by simp only;omega,λj j0 j1 j2=> ?_⟩;simp only at j1 j2 ⊢;by_cases e:j=k
    ·subst e;rw[hn];exact sn
    ·exact mono (hs j j0 (by omega) j2)
   ·rw[if_neg e];obtain⟨s1,s2,s3,s4⟩:=h.st q hqS;exact⟨mono s1,s2,s3,λj j0 j1 j2=>mono (s4 j j0 j1 j2)⟩
  ·rw[if_neg hqS,if_pos (by omega)];exact⟨sn,Bd _,by show(0:Int)<=2;decide,λj j0 j1=>by simp only at j1;omega⟩
 ·rcases cm m_ hx with hx|⟨hx,_⟩
  ·rcases h.ZQ x hx with h1|⟨q,q1,q2⟩
   ·exact .inl h1
   ·refine .inr ⟨q,by simp;omega,?_⟩;rw[YO,Wa,if_pos q1,Nc (by omega)];split
    ·rename_i e;subst e;exact q2
    ·exact q2
  ·refine .inr ⟨S.length,by simp,?_⟩;rw[YO,Wa,if_neg (by omega),if_pos rfl];simp only;omega
 ·have:=Mi (p:=λm:Uf=>m.1) (d:=Ge) (a:=(true,(gx M n.toNat Ge).2)) m_;simp only[hw,Xb,if_false,if_true]at this;have:=h.FF;simp only[oe,Wa,nc];omega
 ·rw[Wa]at hj;rw[Nc m_]at ZL ⊢;split
  ·rename_i e;rw[if_pos e]at ZL;cases ZL
  ·rename_i e;rw[if_neg e]at ZL;exact h.dn j hj ZL
theorem DI.pop{O:List Int}{M:List Uf}{S:List Kd}(h:DI g O M S){i:Nat}(hi:i+1=S.length)(hs:∀j:Int,0<=j->j<2->0<=Ue g (gx S i We).1.toNat j->seen M (Ue g (gx S i We).1.toNat j)):
  DI g (O++[(gx S i We).1]) (M.set (gx S i We).1.toNat ((gx M (gx S i We).1.toNat Ge).1,true)) ((S.set i ((gx S i We).1,2)).take i):=by
 have hl:=h.len;obtain⟨sx,_⟩:=h.st i (by omega);obtain⟨x0,x1,x2⟩:=sx;generalize hx:(gx S i We).1=x at *
 have hxM:x.toNat<M.length:=by omega
 have mono:∀{y:Int},seen M y->seen (M.set x.toNat ((gx M x.toNat Ge).1,true)) y:=λhy=>dL (m:=((gx M x.toNat Ge).1,true)) hxM (λe=>e) hy
 have hlen:(List.take i (S.set i (x,2))).length=i:=by rw[je,Wa];omega
 refine⟨by rw[Wa];exact hl,λq hq=> ?_,λy hy=> ?_,λy hy=> ?_,?_,λj hj ZL=> ?_,mono h.z,λC hC y hy=>h.mn C hC y (by
  rcases cm hxM hy with hy|⟨e,_⟩
  ·exact hy
  ·have:y=x:=by omega
   subst this;exact⟨x0,x1,x2⟩)⟩
 ·rw[hlen]at hq;rw[wS hq,Nc (by omega),if_neg (by omega)];obtain⟨s1,s2,s3,s4⟩:=h.st q (by omega);exact⟨mono s1,s2,s3,λj j0 j1 j2=>mono (s4 j j0 j1 j2)⟩
 ·rcases jh.1 hy with hy|hy
  ·exact⟨mono (h.ord y hy).1,λj hj h0=>mono ((h.ord y hy).2 j hj h0)⟩
  ·have:y=x:=by simpa using hy
   subst this;exact⟨mono ⟨x0,x1,x2⟩,λj hj h0=>mono (hs j (by omega) (by omega) h0)⟩
 ·have hy:seen M y:=by
   rcases cm hxM hy with hy|⟨e,_⟩
   ·exact hy
   ·have:y=x:=by omega
    subst this;exact⟨x0,x1,x2⟩
  rcases h.ZQ y hy with h1|⟨q,q1,q2⟩
  ·exact .inl (we _ h1)
  ·by_cases e:q=i
   ·subst e;rw[hx]at q2;subst q2;exact .inl (by simp)
   ·refine .inr ⟨q,by rw[hlen];omega,?_⟩;rw[wS (by omega),Nc (by omega),if_neg (by omega)];exact q2
 ·have:=Mi (p:=λm:Uf=>m.1) (d:=Ge) (a:=((gx M x.toNat Ge).1,true)) hxM;have:=h.FF;rw[oe,hlen,nc];simp only at *
  omega
 ·rw[Wa]at hj;rw[Nc hxM]at ZL ⊢;split
  ·rename_i e;rw[if_pos e]at ZL;simp only at ZL;rw[x2]at ZL;cases ZL
  ·rename_i e;rw[if_neg e]at ZL;exact h.dn j hj ZL
end
end Go.U
end
section
set_option maxRecDepth 20000
namespace Go.U
open Go
theorem Yae{α:Type}{l:List α}{i:Nat}{d:α}(h:i<l.length):l.set i (gx l i d)=l:=by
 refine List.ext_getElem (by simp) λk h1 h2=> ?_
 rw[List.getElem_set];split
 ·rename_i e;subst e;simp[gx,Qi,h]
 ·rfl
section
variable {g:Ba}{D:List Int}
theorem uaf(hG:Fe g D){O Z:List Int}{M:List Uf}{S:List Kd}(h:DI g O M S){i:Nat}(hi:i+1=S.length):
  ∃e,Ua (Ym.m (i,g,g,O,Z,M)) S=some e/\((∃k n:Int,0<=k/\k<=1/\(∀j:Int,0<=j->j<k->0<=Ue g (gx S i We).1.toNat j->seen M (Ue g (gx S i We).1.toNat j))/\Ue g (gx S i We).1.toNat k=n/\0<=n/\n<(g.1.length:Int)/\(gx M n.toNat Ge).1=false/\e= .inl (M.set n.toNat (true,(gx M n.toNat Ge).2),(S.set i ((gx S i We).1,k+1))++[(n,0)]))\/
   ((∀j:Int,0<=j->j<2->0<=Ue g (gx S i We).1.toNat j->seen M (Ue g (gx S i We).1.toNat j))/\e= .inr (S.set i ((gx S i We).1,2)))):=by
 have hN:=hG.N;have hl:=h.len;have hiS:i<S.length:=by omega
 obtain⟨⟨x0,x1,_⟩,c0,c2,hc⟩:=h.st i hiS;have hS:S.length<=4096:=by
  have:=h.FF;have:=Rd (p:=λm:Uf=>m.1) (l:=M);omega
 generalize hx:(gx S i We).1=x at *
 have YC:x.toNat<g.1.length:=by omega
 have nx:=(hG.Kg x.toNat YC).nx;refine Gc (step:=Ym.m (i,g,g,O,Z,M)) (t:=S) (λt=>∃k:Int,0<=k/\k<=2/\t=S.set i (x,k)/\∀j:Int,0<=j->j<k->0<=Ue g x.toNat j->seen M (Ue g x.toNat j)) (λt=>2-(gx t i We).2.toNat) _
  ⟨(gx S i We).2,c0,c2,by rw[<- hx];exact(Yae hiS).symm,hc⟩ (by show 2-_<_;omega) λt⟨k,k0,k2,ht,hk⟩=> ?_
 subst ht;have e1:gx (S.set i (x,k)) i We=(x,k):=by rw[Nc hiS,if_pos rfl]
 have e2:∀y:Int,(gx (S.set i (x,y)) i We).2=y:=λy=>by rw[Nc hiS,if_pos rfl]
 have bx:V.ua x g.1.length=true:=Sd x0 (by omega);have bm:(decide (((fa (S.set i (x,k+1)))+1) * 16<=70368744177664)&&decide (((fa (S.set i (x,k+1)))+1)<9223372036854775808))=true:=by simp;omega
 have skip:k<=1->(0<=Ue g x.toNat k->seen M (Ue g x.toNat k))->∃k':Int,0<=k'/\k'<=2/\S.set i (x,k+1)=S.set i (x,k')/\∀j:Int,0<=j->j<k'->0<=Ue g x.toNat j->seen M (Ue g x.toNat j):=λh1 hs=>⟨k+1,by omega,by omega,rfl,λj j0 j1 j2=>by
  by_cases e:j=k
  ·subst e;exact hs j2
  ·exact hk j j0 (by omega) j2⟩
 have go:∀n:Int,k<=1->Ue g x.toNat k=n->n<(g.1.length:Int)->
   (∃t',(cond (decide ((0:Int)<=n)) (ask (V.ua n (fa M)) (cond (((gx M n.toNat Ge).1==false)&&(((gx M n.toNat Ge).2==false)&&true))
    (ask (V.ua n (fa M)) (ask (decide (((fa (S.set i (x,k+1)))+1) * 16<=70368744177664)&&decide (((fa (S.set i (x,k+1)))+1)<9223372036854775808)) (some (.inr (.inl ((Wb M n.toNat (true,(gx M n.toNat Ge).2)),(S.set i (x,k+1)++([(n,0)]:List Kd))))))))
    (some (.inl (S.set i (x,k+1)))))) (some (.inl (S.set i (x,k+1)))):Option (List Kd ⊕ ((List Uf×List Kd) ⊕ List Kd)))=some (.inl t')/\(∃k':Int,0<=k'/\k'<=2/\t'=S.set i (x,k')/\∀j:Int,0<=j->j<k'->0<=Ue g x.toNat j->seen M (Ue g x.toNat j))/\2-(gx t' i We).2.toNat<2-k.toNat)\/
   ∃e,(cond (decide ((0:Int)<=n)) (ask (V.ua n (fa M)) (cond (((gx M n.toNat Ge).1==false)&&(((gx M n.toNat Ge).2==false)&&true))
    (ask (V.ua n (fa M)) (ask (decide (((fa (S.set i (x,k+1)))+1) * 16<=70368744177664)&&decide (((fa (S.set i (x,k+1)))+1)<9223372036854775808)) (some (.inr (.inl ((Wb M n.toNat (true,(gx M n.toNat Ge).2)),(S.set i (x,k+1)++([(n,0)]:List Kd))))))))
    (some (.inl (S.set i (x,k+1)))))) (some (.inl (S.set i (x,k+1)))):Option (List Kd ⊕ ((List Uf×List Kd) ⊕ List Kd)))=some (.inr e)/\((∃k n:Int,0<=k/\k<=1/\(∀j:Int,0<=j->j<k->0<=Ue g x.toNat j->seen M (Ue g x.toNat j))/\Ue g x.toNat k=n/\0<=n/\n<(g.1.length:Int)/\(gx M n.toNat Ge).1=false/\e= .inl (M.set n.toNat (true,(gx M n.toNat Ge).2),(S.set i (x,k+1))++[(n,0)]))\/
    ((∀j:Int,0<=j->j<2->0<=Ue g x.toNat j->seen M (Ue g x.toNat j))/\e= .inr (S.set i (x,2)))):=λn k1 hn hnN=>by
  have mu:2-(gx (S.set i (x,k+1)) i We).2.toNat<2-k.toNat:=by rw[e2];omega
  by_cases n0:(0:Int)<=n
  ·have bn:V.ua n M.length=true:=Sd n0 (by omega);simp only[n0,decide_true,cond_true,bn,Fa];cases hw:(gx M n.toNat Ge).1
   ·have hd:=h.dn n.toNat (by omega) hw;simp only[hd,beq_self_eq_true,Bool.and_self,cond_true,bm,Fa];exact .inr ⟨_,rfl,.inl ⟨k,n,k0,k1,hk,hn,n0,hnN,hw,by rw[hd]⟩⟩
   ·have e:(true==false)=false:=rfl;simp only[e,Cq,cond_false];exact .inl ⟨_,rfl,skip k1 (λ_=>by rw[hn];exact⟨n0,by omega,hw⟩),mu⟩
  ·simp only[n0,decide_false,cond_false];exact .inl ⟨_,rfl,skip k1 (λh0=>by rw[hn]at h0;exact absurd h0 n0),mu⟩
 have EA:k=0\/k=1\/k=2:=by omega
 have w0:Ka ((0:Int)+1)=0+1:=by decide
 have w1:Ka ((1:Int)+1)=1+1:=by decide
 have t0:(0:Int)<2:=by decide
 have t1:(1:Int)<2:=by decide
 have t10:¬(1:Int)=0:=by decide
 rcases EA with rfl|rfl|rfl
 ·simp only[LD.m,Ym,e1,t0,decide_true,cond_true,bx,Fa,List.set_set,w0,nc];have e0:(gx g.1 x.toNat Pb).2.2.2.2.2.2.1=Ue g x.toNat 0:=by unfold Ue;rw[if_pos rfl];rfl
  rw[e0];exact go _ (by decide) rfl (by rw[<- e0];exact nx.1)
 ·simp only[LD.m,Ym,e1,t1,t10,decide_true,decide_false,cond_true,cond_false,bx,Fa,List.set_set,w1,nc];have e0:(gx g.1 x.toNat Pb).2.2.2.2.2.2.2=Ue g x.toNat 1:=by unfold Ue;rw[if_neg t10];rfl
  rw[e0];exact go _ (by decide) rfl (by rw[<- e0];exact nx.2)
 ·simp only[LD.m,Ym,e1,Tb,decide_false,cond_false];exact .inr ⟨_,rfl,.inr ⟨hk,rfl⟩⟩
theorem vaf(hG:Fe g D){Z:List Int}{M:List Uf}{S:List Kd}(h:DI g [] M S):∃e,Ua (Kt.m (g,g,Z)) ([],M,S)=some e/\Ij g e:=by
 have hN:=hG.N;obtain⟨e,h1,h2⟩:=Gc (step:=Kt.m (g,g,Z)) (t:=([],M,S)) (λt=>DI g t.1 t.2.1 t.2.2) (λt=>2 * (4096-Xc (λm:Uf=>m.1) t.2.1)+t.2.2.length) (λe=>Ij g e) h (by
  have:=h.FF;have:=Rd (p:=λm:Uf=>m.1) (l:=M);have:=h.len;simp only[Om]at *;omega) (λt hI=>by
  obtain⟨O,M,S⟩:=t;simp only at hI;have hl:=hI.len;have hc:=hI.FF;have eW:=Rd (p:=λm:Uf=>m.1) (l:=M);simp only[LD.m,Kt,nt];by_cases hS:(0:Int)<(S.length:Int)
  ·obtain⟨i,hi⟩:∃i,i+1=S.length:=⟨S.length-1,by omega⟩;have hiS:i<S.length:=by omega
   have wi:Ka ((S.length:Int)-1)=(i:Int):=by rw[Ya (by omega) (by omega)];omega
   simp only[hS,decide_true,cond_true,wi,Tk hiS,Fa,Pa];obtain⟨e,l1,l2⟩:=uaf (Z:=Z) hG hI hi;rw[l1];simp only[da];rcases l2 with⟨k,n,k0,k1,hs,hn,n0,nN,hw,rfl⟩|⟨hs,rfl⟩
   ·have:=hI.push hi k0 k1 hs hn n0 nN hw;refine .inl ⟨_,rfl,this,?_⟩;have cp:=Mi (p:=λm:Uf=>m.1) (d:=Ge) (a:=(true,(gx M n.toNat Ge).2)) (l:=M) (i:=n.toNat) (by omega);simp only[hw,Xb,if_false,if_true]at cp;have ZZ:=this.FF;have das:=Rd (p:=λm:Uf=>m.1) (l:=M.set n.toNat (true,(gx M n.toNat Ge).2));rw[Wa]at das;simp only[oe,Wa,nc]at ZZ ⊢;omega
   ·have sx:=(hI.st i hiS).1;have hp:=hI.pop hi hs;obtain⟨x0,x1,x2⟩:=sx;have e1:gx (S.set i ((gx S i We).1,2)) i We=((gx S i We).1,2):=by rw[Nc hiS,if_pos rfl]
    have wl:Ka (((S.set i ((gx S i We).1,2)).length:Int)-1)=(i:Int):=by rw[Wa];exact wi
    have b1:V.ua (gx S i We).1 M.length=true:=Sd x0 x1;have b2:(decide ((O.length+1) * 8<=70368744177664)&&decide (O.length+1<9223372036854775808))=true:=by simp;omega
    have b3:(decide ((0:Int)<=0)&&decide ((0:Int)<=(i:Int))&&decide ((i:Int)<=((S.set i ((gx S i We).1,2)).length:Int)))=true:=by simp;omega
    simp only[zi,e1,wl,b1,nc,b2,b3,Fa,Pa,Nat.sub_zero];refine .inl ⟨_,rfl,hp,?_⟩;have cp:=Mi (p:=λm:Uf=>m.1) (d:=Ge) (a:=((gx M (gx S i We).1.toNat Ge).1,true)) (l:=M) (i:=(gx S i We).1.toNat) (by omega);simp only at cp;have hlen:((S.set i ((gx S i We).1,2)).take i).length=i:=by rw[je,Wa];omega
    simp only[hlen];omega
  ·simp only[hS,decide_false,cond_false];have hS0:S=[]:=Gb.1 (by omega);subst hS0;have all:∀x,seen M x->x∈O:=λx hx=>by
    rcases hI.ZQ x hx with h|⟨q,q1,_⟩
    ·exact h
    ·exact absurd q1 (Td _)
   simp only[Om]at hc;exact .inr ⟨_,rfl,⟨by omega,λx hx=>by obtain⟨⟨a,b,_⟩,_⟩:=hI.ord x hx;exact⟨a,by omega⟩,all 0 hI.z,λx hx k hk h0=>all _ ((hI.ord x hx).2 k hk h0),λC hC x hx=>hI.mn C hC x (hI.ord x hx).1⟩⟩)
 exact⟨e,h1,h2⟩
theorem Oah(hG:Fe g D):∃r,xu g=some r/\Ij g r:=by
 have hN:=hG.N;have gW:=hG.N1;unfold xu mT KE bK;have hT:ia (nt g.1.length)=g.1.length:=by simp[nt]
 have b1:(decide ((0:Int)<=nt g.1.length)&&decide (nt g.1.length<=nt g.1.length)&&decide (8 * nt g.1.length<=70368744177664)&&decide (nt g.1.length<9223372036854775808))=true:=by have hnt:nt g.1.length=(g.1.length:Int):=rfl;simp;omega
 have b2:(decide ((0:Int)<=nt g.1.length)&&decide (nt g.1.length<=nt g.1.length)&&decide (2 * nt g.1.length<=70368744177664)&&decide (nt g.1.length<9223372036854775808))=true:=by have hnt:nt g.1.length=(g.1.length:Int):=rfl;simp;omega
 have b3:V.ua 0 (fa (fb g.1.length ((false,false):Uf)))=true:=Sd (by decide) (by simp;omega);simp only[hT,b1,b2,b3,Fa];simp only[nt];obtain⟨R,hR⟩:∃R,fb g.1.length ((false,false):Uf)=R:=⟨_,rfl⟩;have hRl:R.length=g.1.length:=by rw[<- hR];simp
 have iY:∀j,j<R.length->gx R j Ge=(false,false):=λj hj=>by
  rw[<- hR]at hj ⊢;simp only[Nv]at hj;simp[gx,Qi,hj]
 have hRc:Xc (λm:Uf=>m.1) R=0:=by rw[<- hR];simp[List.countP_replicate]
 rw[hR];have h0:gx R 0 Ge=(false,false):=iY 0 (by omega);have cp:=Mi (p:=λm:Uf=>m.1) (d:=Ge) (a:=(true,(gx R 0 Ge).2)) (l:=R) (i:=0) (by omega);simp only[h0,Xb,if_false,if_true,hRc]at cp;have sz:seen (R.set 0 (true,(gx R 0 Ge).2)) 0:=⟨Bd _,by rw[Wa];omega,by show(gx _ 0 Ge).1=true;rw[Nc (by omega),if_pos rfl]⟩;have hD:DI g [] (R.set 0 (true,(gx R 0 Ge).2)) [(0,0)]:=by
  refine⟨by rw[Wa];exact hRl,λq hq=> ?_,λx hx=>(by cases hx),λx hx=> ?_,?_,λj hj ZL=> ?_,sz,λC hC x hx=>(cm (by omega) hx).elim (λ⟨x0,x1,x2⟩=>by
   rw[iY _ (by omega)]at x2;cases x2) λ⟨e,_⟩=>by rw[e];exact hC.1⟩
  ·have:q=0:=by simp at hq;exact hq
   subst this;exact⟨sz,Bd _,by decide,λk k0 k1=>by have:k<0:=k1;omega⟩
  ·rcases cm (by omega) hx with⟨x0,x1,x2⟩|⟨e,_⟩
   ·rw[iY _ (by omega)]at x2;cases x2
   ·exact .inr ⟨0,by simp,by rw[e];rfl⟩
  ·rw[h0];simp only[Om,nc];omega
  ·rw[Wa]at hj;rw[Nc (by omega)]at ZL ⊢;split
   ·rename_i e;rw[if_pos e]at ZL;cases ZL
   ·rw[iY j hj]
 obtain⟨e1,p1,p2⟩:=vaf (Z:=fb g.1.length (0:Int)) hG hD;rw[p1];simp only[da];obtain⟨r,r1,r2,r3⟩:=jaa (l:=e1) (by have:=p2.n;omega);rw[r1];simp only[da];have hr:Ij g r:=⟨by rw[r2];exact p2.n,λx hx=>p2.dO x ((r3 x).1 hx),(r3 0).2 p2.z,λx hx k hk h0=>(r3 _).2 (p2.cl x ((r3 x).1 hx) k hk h0),λC hC x hx=>p2.mn C hC x ((r3 x).1 hx)⟩;obtain⟨e3,q1,q2⟩:∃e3,Ua (Lo.m (((fb g.1.length (0:Int)).length:Int),g,r)) (0,fb g.1.length (0:Int))=some e3/\e3.length=g.1.length:=by
  refine Gc (step:=Lo.m (((fb g.1.length (0:Int)).length:Int),g,r)) (t:=(0,fb g.1.length (0:Int))) (λt=>0<=t.1/\t.2.length=g.1.length) (λt=>4096-t.1.toNat) _ ⟨Bd _,by simp⟩ (by simp only;omega) λt⟨a1,a2⟩=> ?_
  obtain⟨i,l⟩:=t;simp only at a1 a2;simp only[LD.m,Lo,Nv];by_cases h:i<(g.1.length:Int)
  ·have b:V.ua i l.length=true:=Sd a1 (by omega);simp only[h,decide_true,cond_true,b,Fa];rw[Ya (n:=i+1) (by omega) (by omega)];exact .inl ⟨_,rfl,⟨by simp only;omega,by simp[a2]⟩,by simp only;omega⟩
  ·simp only[h,decide_false,cond_false];exact .inr ⟨_,rfl,a2⟩
 rw[q1];simp only[da];obtain⟨e4,s1,s2⟩:∃e4,Ua (Ko.m ((r.length:Int),g,r)) (0,e3)=some e4/\True:=by
  have hrn:=hr.n;refine Gc (step:=Ko.m ((r.length:Int),g,r)) (t:=(0,e3)) (λt=>0<=t.1/\t.2.length=g.1.length) (λt=>4096-t.1.toNat) _ ⟨Bd _,q2⟩ (by simp only;omega) λt⟨a1,a2⟩=> ?_
  obtain⟨i,l⟩:=t;simp only at a1 a2;simp only[LD.m,Ko];by_cases h:i<(r.length:Int)
  ·have b:V.ua i r.length=true:=Sd a1 h;obtain⟨y0,y1⟩:=hr.dO (gx r i.toNat 0) (Eb (ym (d:=(0:Int)) (by omega)));have b':V.ua (gx r i.toNat (0:Int)) l.length=true:=Sd y0 (by omega);simp only[h,decide_true,cond_true,b,b',Fa];rw[Ya (n:=i+1) (by omega) (by omega)];exact .inl ⟨_,rfl,⟨by simp only;omega,by simp[a2]⟩,by simp only;omega⟩
  ·simp only[h,decide_false,cond_false];exact .inr ⟨_,rfl,trivial⟩
 rw[s1];exact⟨r,rfl,hr⟩
end
end Go.U
end
section
set_option maxRecDepth 20000
namespace Go.U
open Go
structure VN(n:Nat)(v:List ga):Prop where
 n:v.length=n
 c:∀j,j<v.length->CR (gx v j Aa)
 l:∀j,j<v.length->(gx v j Aa).1=false
theorem VN.set{n:Nat}{v:List ga}{c:ga}{i:Nat}(h:VN n v)(hc:CR c)(h1:c.1=false)(hi:i<v.length):VN n (v.set i c):=by
 refine⟨by simp[h.n],λj hj=> ?_,λj hj=> ?_⟩
 ·rw[Nc hi];split
  ·exact hc
  ·exact h.c j (by simpa using hj)
 ·rw[Nc hi];split
  ·exact h1
  ·exact h.l j (by simpa using hj)
structure Jj(g:Ba)(s:Ga):Prop where
 v:s.1=true->VN (af g).length s.2.1
 w:s.1=true->VN (Rg g).length s.2.2
 dd:s.1=false->s=Ye
section
variable {g:Ba}{D:List Int}{a b c:Ga}
theorem Jj.fit(h:Jj g a)(h1:a.1=true):vi g a:=⟨(h.v h1).n,(h.w h1).n,(h.v h1).c,(h.w h1).c⟩
theorem Jj.dead:Jj g Ye:=⟨λh=>(by cases h),λh=>(by cases h),λ_=>rfl⟩
theorem Jj.mk'{v w:List ga}(hv:VN (af g).length v)(hw:VN (Rg g).length w):Jj g (true,(v,w)):=⟨λ_=>hv,λ_=>hw,λh=>(by cases h)⟩
theorem Jj.small(hG:Fe g D)(h:Jj g a):Small a:=iV hG h.fit h.dd
theorem Jj.pA(hG:Fe g D)(ha:Jj g a)(hb:Jj g b)(h1:a.1=true)(h2:b.1=true):xN a b:=by
 have v1:=ha.v h1;have v2:=hb.v h2;have w1:=ha.w h1;have w2:=hb.w h2;have hs:=ha.small hG;exact⟨⟨hs.v,by rw[v1.n,v2.n],v1.c,λi hi=>v2.c i (by rw[v2.n,<- v1.n];exact hi)⟩,⟨hs.w,by rw[w1.n,w2.n],w1.c,λi hi=>w2.c i (by rw[w2.n,<- w1.n];exact hi)⟩⟩
theorem UC{x y:ga}(hx:CR x)(hy:CR y)(h:x.1=false):(Pf x y).1=false:=(Be hx (oh hx hy) (Jp hx hy).1 h).1
theorem VN.join{n:Nat}{v w:List ga}(hv:VN n v)(hw:VN n w):VN n (Ce v w):=by
 have e:∀j,j<v.length->gx (Ce v w) j Aa=Pf (gx v j Aa) (gx w j Aa):=λj hj=>Np hj
 have hl:(Ce v w).length=v.length:=by unfold Ce;simp
 have h2:v.length=w.length:=by rw[hv.n,hw.n]
 refine⟨by rw[hl,hv.n],λj hj=> ?_,λj hj=> ?_⟩
 ·rw[e j (by omega)];exact oh (hv.c j (by omega)) (hw.c j (by omega))
 ·rw[e j (by omega)];exact UC (hv.c j (by omega)) (hw.c j (by omega)) (hv.l j (by omega))
theorem Jj.join(ha:Jj g a)(hb:Jj g b):Jj g (Af a b):=by
 unfold Af;cases h1:a.1
 ·exact hb
 ·cases h2:b.1
  ·exact ha
  ·exact Jj.mk' ((ha.v h1).join (hb.v h2)) ((ha.w h1).join (hb.w h2))
theorem DR{v w:List ga}{r:Int}{c:ga}(hv:VN (af g).length v)(h0:0<=r)(hc:CR c)(h:qk ((af g).length:Int) v r c=some w):VN (af g).length w:=by
 unfold qk at h;by_cases hr:r<((af g).length:Int)
 ·rw[if_pos hr]at h;have hn:=hv.n;split at h
  ·cases h
  ·rename_i k;injection h with h
   subst h;exact hv.set (Bi (hv.c r.toNat (by omega)) hc).2.1 (by simpa using k) (by omega)
 ·rw[if_neg hr]at h;injection h with h
  subst h;exact hv
theorem P9(hG:Fe g D)(ha:Jj g a)(h1:a.1=true){oa:List ga}(ho:Vo g a g.1.length oa){j:Nat}(hj:j<g.1.length)(way:Int):Jj g (Yh g a oa (at' g j) way):=by
 have hf:=ha.fit h1;have Kg:=hG.Kg j hj;obtain⟨y,hy⟩:∃y,at' g j=y:=⟨_,rfl⟩;have use:∀x∈jf y,0<=x/\x<g.2.2.1:=λx hx=>by
  obtain⟨a,b,_⟩:=Ri hG (Kg.use x (by rw[hy];exact hx));exact⟨a,b⟩
 have idx:=Kg.idx;have out:=λ{x:Int}(h0:0<=x)(h1:x<g.2.2.1)=>yp hG hf ho h0 h1
 have vn:=ha.v h1;have wn:=ha.w h1;have hvn:=vn.n;have hwn:=wn.n;rw[hy]at idx ⊢;have ea:a=(true,(a.2.1,a.2.2)):=by rw[<- h1]
 unfold Yh;split
 ·split
  ·exact .dead
  ·exact ha
 ·split
  ·rename_i k2;obtain⟨i1,i2⟩:=idx.k13 k2;obtain⟨a1,a2⟩:=use y.2.2.1 (by simp[jf,k2]);split
   ·exact .dead
   ·rename_i k;rw[h1];exact Jj.mk' (vn.set (Tm (out a1 a2) _) (by simpa using k) (by omega)) wn
  ·split
   ·rename_i k3;obtain⟨i1,i2⟩:=idx.k11 (.inr k3);obtain⟨a1,a2⟩:=use y.2.1 (by simp[jf,k3]);have tc:=Tm (out a1 a2) (gx (Rg g) y.2.2.1.toNat Ob).2.1;by_cases k:(uh (gx oa y.2.1.toNat Aa) (gx (Rg g) y.2.2.1.toNat Ob).2.1).1=true
    ·rw[if_pos k];exact .dead
    ·rw[if_neg k,h1];have hi:y.2.2.1.toNat<a.2.2.length:=by omega
     have k':=eq_false_of_ne_true k;refine Jj.mk' vn (wn.set ?_ ?_ hi)
     ·split
      ·exact oh (wn.c _ hi) tc
      ·exact tc
     ·split
      ·exact UC (wn.c _ hi) tc (wn.l _ hi)
      ·exact k'
   ·split
    ·rename_i k4;obtain⟨a1,a2⟩:=use y.2.2.1 (by simp[jf,k4]);obtain⟨b1,b2⟩:=use y.2.2.2.1 (by simp[jf,k4]);have t1:=Lq (op:=if way=1 then gl y.2.2.2.2.1 else y.2.2.2.2.1) (out a1 a2) (out b1 b2);generalize mh (if way=1 then gl y.2.2.2.2.1 else y.2.2.2.2.1) (gx oa y.2.2.1.toNat Aa) (gx oa y.2.2.2.1.toNat Aa)=pq at t1 ⊢;split
     ·exact .dead
     ·unfold refs;cases hw:qk ((af g).length:Int) a.2.1 y.2.2.1 pq.1 with
      |none=>exact .dead
      |some w=>
       simp only[da];cases CO:qk ((af g).length:Int) w y.2.2.2.1 pq.2 with
       |none=>exact .dead
       |some u=>
        show Jj g (a.1,(u,a.2.2));rw[h1];exact Jj.mk' (DR (DR vn a1 t1.1 hw) b1 t1.2 CO) wn
    ·exact ha
noncomputable def ng(g:Ba)(s:Ga)(j:Nat)(way:Int):Ga:=(vl (g,s,(j:Int),way)).getD Ye
theorem Zn(hG:Fe g D)(hn:ri g)(ha:Jj g a){j:Nat}(hj:j<g.1.length)(way:Int):vl (g,a,(j:Int),way)=some (ng g a j way)/\Jj g (ng g a j way):=by
 obtain⟨oa,ho⟩:=oI hG hn ha.fit;unfold ng;by_cases wa:Nk g a j way
 ·rw[Cx hG hj wa];exact⟨rfl,.dead⟩
 ·have la:a.1=true:=by
   cases h:a.1
   ·exact absurd (.inl h) wa
   ·rfl
  rw[vE hG (ha.fit la) ho hj wa];exact⟨rfl,P9 hG ha la (ho la) hj way⟩
theorem Ku(hG:Fe g D)(hn:ri g)(ha:Jj g a)(hc:Jj g c)(hl:cj a c){j:Nat}(hj:j<g.1.length)(way:Int):cj (ng g a j way) (ng g c j way):=by
 obtain⟨r,r',t1,t2,t3,_⟩:=BY hG hn ha.fit hc.fit hl hj way;unfold ng;rw[t1,t2];exact t3
theorem ZN(hG:Fe g D){j:Nat}(hj:j<g.1.length)(way:Int):ng g Ye j way=Ye:=by
 unfold ng;rw[Cx hG hj (.inl rfl)];rfl
theorem Vv.trans{a b c:List ga}(h:Vv a b)(h':Vv b c):Vv a c:=by
 have e:=h.e;have e':=h'.e;exact⟨by omega,h.ca,λi hi=>h'.cb i (by omega),λi hi=>le_trans' (h.ca i hi) (h.cb i hi) (h'.cb i (by omega)) (h.le i hi) (h'.le i (by omega))⟩
theorem cj.trans(h:cj a b)(h':cj b c):cj a c:=λh1=>by
 have x:=h h1;have y:=h' x.live;exact⟨y.live,x.v.trans y.v,x.w.trans y.w⟩
theorem Ys(ha:Jj g a)(hb:Jj g b)(h:Fl a b=true):cj a b:=λh1=>by
 unfold Fl at h;rw[h1]at h;cases h2:b.1
 ·rw[h2]at h;cases h
 ·rw[h2]at h;simp only[cond_true,Ab]at h;have v1:=ha.v h1;have v2:=hb.v h2;have w1:=ha.w h1;have w2:=hb.w h2;exact⟨h2,⟨by rw[v1.n,v2.n],v1.c,λi hi=>v2.c i (by rw[v2.n,<- v1.n];exact hi),λi hi=>ec.1 h.1 i (jg.2 hi)⟩,⟨by rw[w1.n,w2.n],w1.c,λi hi=>w2.c i (by rw[w2.n,<- w1.n];exact hi),λi hi=>ec.1 h.2 i (jg.2 hi)⟩⟩
theorem cj.refl(ha:Jj g a):cj a a:=λh=>LeM.refl (ha.fit h) h
theorem Vv.join{a b c:List ga}(h:Vv a c)(h':Vv b c):Vv (Ce a b) c:=by
 have e:=h.e;have e':=h'.e;have hl:(Ce a b).length=a.length:=by unfold Ce;simp
 have ge:∀j,j<a.length->gx (Ce a b) j Aa=Pf (gx a j Aa) (gx b j Aa):=λj hj=>Np hj
 refine⟨by omega,λi hi=> ?_,λi hi=>h.cb i (by omega),λi hi=> ?_⟩
 ·rw[ge i (by omega)];exact oh (h.ca i (by omega)) (h'.ca i (by omega))
 ·rw[ge i (by omega)];exact join_le (h.ca i (by omega)) (h'.ca i (by omega)) (h.cb i (by omega)) (h.le i (by omega)) (h'.le i (by omega))
theorem cj.join(h:cj a c)(h':cj b c):cj (Af a b) c:=by
 unfold Af;cases h1:a.1
 ·exact h'
 ·cases h2:b.1
  ·exact h
  ·have x:=h h1;have y:=h' h2;exact λ_=>⟨x.live,x.v.join y.v,x.w.join y.w⟩
end
def Ju(f:Nat->Nat):Nat->Nat
 |0=>0
 |n+1=>Ju f n+f n
theorem ew{f h:Nat->Nat}:∀{n:Nat},(∀i,i<n->f i<=h i)->Ju f n<=Ju h n
 |0,_=>ya _
 |n+1,hl=>Nat.add_le_add (ew λi hi=>hl i (by omega)) (hl n (by omega))
theorem qR{f h:Nat->Nat}{i:Nat}:∀{n:Nat},(∀i,i<n->f i<=h i)->i<n->f i<h i->Ju f n<Ju h n
 |0,_,hi,_=>absurd hi (Td _)
 |n+1,hl,hi,hs=>by
  by_cases e:i=n
  ·subst e;exact Nat.add_lt_add_of_le_of_lt (ew λi hi=>hl i (by omega)) hs
  ·exact Nat.add_lt_add_of_lt_of_le (qR (λi hi=>hl i (by omega)) (by omega) hs) (hl n (by omega))
theorem mm{f:Nat->Nat}{c:Nat}:∀{n:Nat},(∀i,i<n->f i<=c)->Ju f n<=n * c
 |0,_=>Ac _
 |n+1,hl=>by rw[Lj];exact Nat.add_le_add (mm λi hi=>hl i (by omega)) (hl n (by omega))
theorem SN{f h:Nat->Nat}{n:Nat}(hl:∀i,i<n->f i=h i):Ju f n=Ju h n:=Nat.le_antisymm (ew λi hi=>Nat.le_of_eq (hl i hi)) (ew λi hi=>Nat.le_of_eq (hl i hi).symm)
theorem dw{f h:Nat->Nat}{i:Nat}:∀{n:Nat},i<n->(∀j,j<n->j≠i->h j=f j)->Ju h n+f i=Ju f n+h i
 |0,hi,_=>absurd hi (Td _)
 |n+1,hi,hl=>by
  by_cases e:i=n
  ·subst e;have:=SN (f:=f) (h:=h) (n:=i) λj hj=>(hl j (by omega) (by omega)).symm
   simp only[Ju];omega
  ·have:=dw (f:=f) (h:=h) (i:=i) (n:=n) (by omega) λj hj td=>hl j (by omega) td
   have:=hl n (by omega) (λe'=>e e'.symm);simp only[Ju];omega
def mV(c:ga):Nat:=if c.1=true then 4294967297 else if c.2.1=0 then 4294967296 else c.2.1.toNat
theorem eO{c d:ga}(hc:CR c)(hd:CR d)(h:Pd c d=true):mV d<=mV c/\(mV d=mV c->Pd d c=true):=by
 unfold mV;cases h1:c.1
 ·obtain⟨e1,d1,d2⟩:=Be hc hd h h1;obtain⟨c0,c1,_⟩:=hc.bounds h1;obtain⟨d0,dl,_⟩:=hd.bounds e1;simp only[e1,Xb,if_false];by_cases z:d.2.1=0
  ·have e:=Fh hc hd h h1 z;subst e;exact⟨ya _,λ_=>mg hc⟩
  ·rw[if_neg z];by_cases zc:c.2.1=0
   ·rw[if_pos zc];exact⟨by omega,λe=>by omega⟩
   ·rw[if_neg zc];have hle:=Int.le_of_dvd (show 0<c.2.1 by omega) d1;refine⟨by omega,λe=> ?_⟩;have em:d.2.1=c.2.1:=by omega
    refine(zf hd hc).2 λz⟨_,z1,z2,z3⟩=>⟨h1,z1,z2,?_⟩
    rw[em]at z3 d2;exact(Ck d2).2 z3
 ·have hr:mV d<=4294967297:=by
   unfold mV;split
   ·exact ya _
   ·rename_i k;obtain⟨d0,dl,_⟩:=hd.bounds (eq_false_of_ne_true k);split<;>omega
  unfold mV at hr;simp only[if_true];refine⟨hr,λe=> ?_⟩;cases h2:d.1
  ·obtain⟨d0,dl,_⟩:=hd.bounds h2;rw[h2]at e;simp only[Xb,if_false]at e;split at e<;>omega
  ·rw[hd.true h2];rfl
theorem S9{c:ga}(hc:CR c):mV c<=4294967297:=by
 unfold mV;split
 ·exact ya _
 ·rename_i k;obtain⟨d0,dl,_⟩:=hc.bounds (eq_false_of_ne_true k);split<;>omega
def nV(l:List ga):Nat:=Ju (λj=>mV (gx l j Aa)) l.length
theorem AR{l:List ga}(h:∀j,j<l.length->CR (gx l j Aa)):nV l<=l.length * 4294967297:=mm λj hj=>S9 (h j hj)
theorem LY{a b:List ga}(h:Vv a b):nV b<=nV a:=by
 unfold nV;rw[<- h.e];exact ew λj hj=>(eO (h.ca j hj) (h.cb j hj) (h.le j hj)).1
theorem KY{a b:List ga}(h:Vv a b)(hn:¬Vv b a):nV b<nV a:=by
 unfold nV;rw[<- h.e];have:∃j,j<a.length/\¬Pd (gx b j Aa) (gx a j Aa)=true:=by
  refine kq λhx=>hn ⟨h.e.symm,λi hi=>h.cb i (by rw[h.e];exact hi),λi hi=>h.ca i (by rw[h.e];exact hi),λi hi=> ?_⟩
  refine kq λhy=>hx ⟨i,by rw[h.e];exact hi,hy⟩
 obtain⟨j,hj,td⟩:=this;refine qR (i:=j) (λj hj=>(eO (h.ca j hj) (h.cb j hj) (h.le j hj)).1) hj ?_;obtain⟨q1,q2⟩:=eO (h.ca j hj) (h.cb j hj) (h.le j hj);rcases dc (mV (gx b j Aa)) (mV (gx a j Aa))with h1|h1
 ·exact h1
 ·exact absurd (q2 (by omega)) td
def rk(s:Ga):Nat:=if s.1=true then nV s.2.1+nV s.2.2 else 347892351057
section
variable {g:Ba}{D:List Int}{p s:Ga}
theorem yR(hG:Fe g D)(h:Jj g s)(h1:s.1=true):rk s<347892351057:=by
 have v:=h.v h1;have w:=h.w h1;have hS:=hG.S;have hA:=hG.A;have r1:=AR v.c;have r2:=AR w.c;rw[v.n]at r1;rw[w.n]at r2;have m1:(af g).length * 4294967297<=64 * 4294967297:=Vc _ hS;have m2:(Rg g).length * 4294967297<=16 * 4294967297:=Vc _ hA;unfold rk;rw[if_pos h1];omega
theorem JY(hG:Fe g D)(h:Jj g s):rk s<=347892351057:=by
 cases h1:s.1
 ·unfold rk;rw[h1];exact ya _
 ·exact js (yR hG h h1)
theorem zR(hG:Fe g D)(hp:Jj g p)(hs:Jj g s)(hn:¬cj s p):rk (Af p s)<rk p:=by
 have ls:s.1=true:=by
  cases h:s.1
  ·exact absurd (λh'=>by rw[h]at h';cases h') hn
  ·rfl
 cases h1:p.1
 ·have e:Af p s=s:=by unfold Af;rw[h1];rfl
  rw[e];have:rk p=347892351057:=by unfold rk;rw[h1];rfl
  rw[this];exact yR hG hs ls
 ·have e:Af p s=(true,(Ce p.2.1 s.2.1,Ce p.2.2 s.2.2)):=by unfold Af;rw[h1,ls];rfl
  obtain⟨j1,j2,_⟩:=HL hG (hp.fit h1) (hs.fit ls) h1 ls;rw[e]at j1 j2 ⊢;have v1:=LY j1.v;have w1:=LY j1.w;have rp:rk p=nV p.2.1+nV p.2.2:=by unfold rk;rw[if_pos h1]
  have rj:rk (true,(Ce p.2.1 s.2.1,Ce p.2.2 s.2.2))=nV (Ce p.2.1 s.2.1)+nV (Ce p.2.2 s.2.2):=by unfold rk;rw[if_pos rfl]
  rw[rp,rj];by_cases hv:Vv (Ce p.2.1 s.2.1) p.2.1
  ·by_cases hw:Vv (Ce p.2.2 s.2.2) p.2.2
   ·exact absurd (λ_=>⟨h1,j2.v.trans hv,j2.w.trans hw⟩) hn
   ·have:=KY j1.w hw;simp only at v1 this ⊢;omega
  ·have:=KY j1.v hv;simp only at w1 this ⊢;omega
end
end Go.U
end
section
set_option maxRecDepth 20000
namespace Go.U
open Go
def tu(g:Ba):List ga:=(mb (af g).length).map λi=>nf 0 (gx (af g) i ud).2.2
def uu(g:Ba):List ga:=(mb (Rg g).length).map λi=>nf 0 (gx (Rg g) i Ob).2.2.2
theorem QY(x:Int):Gr x=some (nf 0 x):=by
 unfold Gr AM;have h:Cm (0,x)=some (nf 0 x):=Nl x;rw[h];rfl
structure lR(g:Ba):Prop where
 s:(af g).length<=1048576
 a:(Rg g).length<=1048576
 si:∀i,i<(af g).length->I64 (gx (af g) i ud).2.2
 ai:∀i,i<(Rg g).length->I64 (gx (Rg g) i Ob).2.2.2
theorem J4{g:Ba}(h:lR g):kE g=some (tu g,uu g):=by
 unfold kE QT;rw[vm (n:=(af g).length) (F:=λi=>nf 0 (gx (af g) i ud).2.2) h.s (λi l hi hl=>by
  have h':(i:Int)<((af g).length:Int):=by omega
  have hs:=h.s;simp only[LD.m,mE,nt,h',decide_true,cond_true,Tk hi,Fa,Pa];rw[QY];simp only[da,nc];rw[vA (by omega),Fa]) (λl=>by
  simp only[LD.m,mE,nt,Tb,decide_false,cond_false])]
 simp only[da];rw[vm (n:=(Rg g).length) (F:=λi=>nf 0 (gx (Rg g) i Ob).2.2.2) h.a (λi l hi hl=>by
  have h':(i:Int)<((Rg g).length:Int):=by omega
  have hs:=h.a;simp only[LD.m,lE,nt,h',decide_true,cond_true,Tk hi,Fa,Pa];rw[QY];simp only[da,nc];rw[vA (by omega),Fa]) (λl=>by
  simp only[LD.m,lE,nt,Tb,decide_false,cond_false])]
 rfl
end Go.U
end
section
set_option maxRecDepth 20000
namespace Go.U
open Go
abbrev VQ{α:Type}(i:Int)(l:List (Int×α)):List (Int×α):=eG (k:=(.int .i64)) i l
theorem cF{α:Type}(i j:Int)(y:α)(l:List (Int×α)):VQ i ((j,y)::l)=cond (decide (i=j)) l ((j,y)::VQ i l):=rfl
theorem DU{α:Type}(i:Int){p:Int×α}:∀{l:List (Int×α)},p∈VQ i l->p∈l
 |(j,y)::l,h=>by
  rw[cF]at h;cases hd:decide (i=j)
  ·rw[hd]at h;rcases me.1 h with h|h
   ·exact h ▸ Dd
   ·exact Rb _ (DU i h)
  ·rw[hd]at h;exact Rb _ h
theorem EU{α:Type}(i:Int):∀{l:List (Int×α)},Sm i l=true->(VQ i l).length+1=l.length
 |(j,y)::l,h=>by
  rw[Ak]at h;rw[cF];cases hd:decide (i=j)
  ·rw[hd]at h;have:=EU i (l:=l) h;simp only[cond_false,List.length_cons];omega
  ·rfl
theorem uS{α:Type}{i j:Int}(td:j≠i):∀(l:List (Int×α)),Sm j (VQ i l)=Sm j l
 |[]=>rfl
 |(k,y)::l=>by
  rw[cF,Ak];by_cases h:i=k
  ·subst h;simp[td]
  ·simp only[h,decide_false,cond_false,Ak,uS td l]
theorem vR{α:Type}{i:Int}{x:α}{p:Int×α}:∀{l:List (Int×α)},p∈Ky i x l->p=(i,x)\/p∈l
 |[],h=>by rw[set_nil]at h;exact .inl (by simpa using h)
 |(j,y)::l,h=>by
  rw[jw]at h;cases hd:decide (i=j)
  ·rw[hd]at h;rcases me.1 h with h|h
   ·exact .inr (h ▸ Dd)
   ·exact(vR h).imp id λh=>Rb _ h
  ·rw[hd]at h;rcases me.1 h with h|h
   ·exact .inl h
   ·exact .inr (Rb _ h)
theorem wR{α:Type}{i:Int}{x:α}:∀(l:List (Int×α)),(Ky i x l).length<=l.length+1
 |[]=>by rw[set_nil];exact ya _
 |(j,y)::l=>by
  rw[jw];cases decide (i=j)
  ·have:=wR (i:=i) (x:=x) l;simp only[cond_false,List.length_cons];omega
  ·simp only[cond_true,List.length_cons];omega
theorem B0{i:Int}{l:List (Int×Bool)}(hl:∀p∈l,p.2=true)(h:Sm i l=true):Yu i false l=true:=by
 induction l with
 |nil=>cases h
 |cons p l ih=>
  obtain⟨j,y⟩:=p;rw[Ak]at h;rw[Qw];cases hd:decide (i=j)
  ·rw[hd]at h;exact ih (λp hp=>hl p (Rb _ hp)) h
  ·have:y=true:=hl (j,y) Dd;rw[this];rfl
theorem GI{g:Ba}{D:List Int}(hG:Fe g D):lR g:=by
 have hS:=hG.S;have hA:=hG.A;exact⟨by omega,by omega,λi hi=>by obtain⟨a,b⟩:=hG.I.s i hi;exact⟨by omega,by omega⟩,λi hi=>by obtain⟨a,b⟩:=hG.I.a i hi;exact⟨by omega,by omega⟩⟩
def Bo(g:Ba):Ga:=(true,(tu g,uu g))
theorem NB{g:Ba}{D:List Int}(hG:Fe g D):Jj g (Bo g):=by
 have mac:∀{x:Int},InI x->(nf 0 x).1=false:=λ{x}h=>by unfold nf;rw[if_pos rfl,if_pos (show -2147483648<=x/\x<=2147483647 from h)]
 refine Jj.mk' ⟨by unfold tu;simp,λj hj=> ?_,λj hj=> ?_⟩ ⟨by unfold uu;simp,λj hj=> ?_,λj hj=> ?_⟩
 ·have pS:j<(af g).length:=by unfold tu at hj;simpa using hj
  unfold tu;rw[Np pS];exact zg (Bd _)
 ·have pS:j<(af g).length:=by unfold tu at hj;simpa using hj
  unfold tu;rw[Np pS];exact mac (hG.I.s j pS)
 ·have pS:j<(Rg g).length:=by unfold uu at hj;simpa using hj
  unfold uu;rw[Np pS];exact zg (Bd _)
 ·have pS:j<(Rg g).length:=by unfold uu at hj;simpa using hj
  unfold uu;rw[Np pS];exact mac (hG.I.a j pS)
structure L8(g:Ba)(O:List Int)(l:List Ga):Prop where
 len:l.length=g.1.length
 st:∀j,j<g.1.length->Jj g (gx l j Kb)
 init:cj (Bo g) (gx l 0 Kb)
 step:∀x∈O,∀k:Int,k=0\/k=1->0<=Ue g x.toNat k->cj (ng g (gx l x.toNat Kb) x.toNat k) (gx l (Ue g x.toNat k).toNat Kb)
structure SI(g:Ba)(O:List Int)(P:List Ga)(W:List (Int×Bool))(xq:Int->Int->Prop):Prop where
 len:P.length=g.1.length
 st:∀j,j<g.1.length->Jj g (gx P j Kb)
 init:cj (Bo g) (gx P 0 Kb)
 step:∀x∈O,∀k:Int,k=0\/k=1->0<=Ue g x.toNat k->Sm x W=true\/xq x k\/cj (ng g (gx P x.toNat Kb) x.toNat k) (gx P (Ue g x.toNat k).toNat Kb)
 key:∀p∈W,p.1∈O/\p.2=true
 least:∀l,L8 g O l->∀j,j<g.1.length->cj (gx P j Kb) (gx l j Kb)
def RK(g:Ba)(P:List Ga):Nat:=Ju (λj=>rk (gx P j Kb)) g.1.length
def mu(g:Ba)(P:List Ga)(W:List (Int×Bool)):Nat:=3 * RK g P+W.length
section
variable {g:Ba}{D:List Int}{O:List Int}{P:List Ga}{W:List (Int×Bool)}
theorem NG(hG:Fe g D){j:Nat}(hj:j<g.1.length){k:Int}(hk:k=0\/k=1):Ue g j k<(g.1.length:Int):=by
 have:=(hG.Kg j hj).nx;rcases hk with rfl|rfl
 ·exact this.1
 ·exact this.2
theorem SI.Oas(hG:Fe g D)(hn:ri g)(hO:Ij g O){xq ou:Int->Int->Prop}(h:SI g O P W xq){x k:Int}(hx:x∈O)(hk:k=0\/k=1)(h0:0<=Ue g x.toNat k)(hp:∀y k',xq y k'->ou y k'\/(y=x/\k'=k)):
  (Fl (ng g (gx P x.toNat Kb) x.toNat k) (gx P (Ue g x.toNat k).toNat Kb)=true->SI g O P W ou)/\
  (Fl (ng g (gx P x.toNat Kb) x.toNat k) (gx P (Ue g x.toNat k).toNat Kb)=false->SI g O (P.set (Ue g x.toNat k).toNat (Af (gx P (Ue g x.toNat k).toNat Kb) (ng g (gx P x.toNat Kb) x.toNat k))) (Ky (Ue g x.toNat k) true W) ou/\
   RK g (P.set (Ue g x.toNat k).toNat (Af (gx P (Ue g x.toNat k).toNat Kb) (ng g (gx P x.toNat Kb) x.toNat k)))<RK g P):=by
 obtain⟨x0,x1⟩:=hO.dO x hx;have YC:x.toNat<g.1.length:=by omega
 have KZ:=NG hG YC hk;have hnO:=hO.cl x hx k hk h0;have sx:=h.st x.toNat YC;obtain⟨_,sr⟩:=Zn hG hn sx YC k;generalize WV:Ue g x.toNat k=n at *
 have hnN:n.toNat<g.1.length:=by omega
 have sp:=h.st n.toNat hnN;generalize hr:ng g (gx P x.toNat Kb) x.toNat k=r at *
 refine⟨λhle=>⟨h.len,h.st,h.init,λy hy k' YL Xu=> ?_,h.key,h.least⟩,λhle=> ?_⟩
 ·rcases h.step y hy k' YL Xu with a|a|a
  ·exact .inl a
  ·rcases hp y k' a with b|⟨rfl,rfl⟩
   ·exact .inr (.inl b)
   ·exact .inr (.inr (by rw[hr,WV];exact Ys sr sp hle))
  ·exact .inr (.inr a)
 ·have dD:¬cj r (gx P n.toNat Kb):=λhh=>by rw[hh.leq]at hle;cases hle
  have hPn:n.toNat<P.length:=by rw[h.len];exact hnN
  have sj:=sp.join sr;obtain⟨up1,up2,_⟩:=VC hG sp.fit sr.fit;have grow:∀j,cj (gx P j Kb) (gx (P.set n.toNat (Af (gx P n.toNat Kb) r)) j Kb)\/g.1.length<=j:=λj=>by
   by_cases hj:j<g.1.length
   ·left;rw[Nc hPn];split
    ·rename_i e;rw[<- e];exact up1
    ·exact cj.refl (h.st j hj)
   ·right;omega
  refine⟨⟨by rw[Wa];exact h.len,λj hj=> ?_,?_,λy hy k' YL Xu=> ?_,λp bz=> ?_,λl hl j hj=> ?_⟩,?_⟩
  ·rw[Nc hPn];split
   ·exact sj
   ·exact h.st j hj
  ·rcases grow 0 with a|a
   ·exact h.init.trans a
   ·have:=hG.N1;omega
  ·obtain⟨y0,y1⟩:=hO.dO y hy;by_cases e:y=n
   ·left;rw[Ow];simp[e]
   ·have ey:gx (P.set n.toNat (Af (gx P n.toNat Kb) r)) y.toNat Kb=gx P y.toNat Kb:=by
     rw[Nc hPn,if_neg (by omega)]
    have zaf:=NG hG (j:=y.toNat) (by omega) YL;rw[ey];rcases h.step y hy k' YL Xu with a|a|a
    ·left;rw[Ow,a];simp
    ·rcases hp y k' a with b|⟨rfl,rfl⟩
     ·exact .inr (.inl b)
     ·refine .inr (.inr ?_);rw[hr,WV,Nc hPn,if_pos rfl];exact up2
    ·refine .inr (.inr ?_);rcases grow (Ue g y.toNat k').toNat with b|b
     ·exact a.trans b
     ·omega
  ·rcases vR bz with rfl|bz
   ·exact⟨hnO,rfl⟩
   ·exact h.key p bz
  ·rw[Nc hPn];split
   ·rename_i e;rw[<- e];refine(h.least l hl _ hnN).join ?_;have:=Ku hG hn sx (hl.st x.toNat YC) (h.least l hl x.toNat YC) YC k;rw[hr]at this;have hs:=hl.step x hx k hk (by rw[WV];exact h0);rw[WV]at hs;exact this.trans hs
   ·exact h.least l hl j hj
  ·have wZ:=dw (f:=λj=>rk (gx P j Kb)) (h:=λj=>rk (gx (P.set n.toNat (Af (gx P n.toNat Kb) r)) j Kb)) (i:=n.toNat) (n:=g.1.length) hnN (λj hj td=>by(try simp only);rw[Nc hPn,if_neg (λe=>td e.symm)])
   try simp only at wZ
   rw[Nc hPn,if_pos rfl]at wZ;have:=zR hG sp sr dD;unfold RK;omega
theorem saf(hG:Fe g D)(hn:ri g)(hO:Ij g O){x:Int}(hx:x∈O)(h:SI g O P W (λy _=>y=x)){a b c:List Int}{n i:Int}:
  ∃e,Ua (Kl.m (a,x,b,n,i,(at' g x.toNat).2.2.2.2.2.2,g)) (0,P,W)=some e/\SI g O e.1 e.2 (λ_ _=>False)/\mu g e.1 e.2<=mu g P W:=by
 obtain⟨x0,x1⟩:=hO.dO x hx;have YC:x.toNat<g.1.length:=by omega
 refine Gc (step:=Kl.m (a,x,b,n,i,(at' g x.toNat).2.2.2.2.2.2,g)) (t:=(0,P,W)) (λt=>0<=t.1/\t.1<=2/\SI g O t.2.1 t.2.2 (λy k=>y=x/\t.1<=k/\k<=1)/\mu g t.2.1 t.2.2<=mu g P W) (λt=>2-t.1.toNat) _ ⟨by show(0:Int)<=0;decide,by show(0:Int)<=2;decide,⟨h.len,h.st,h.init,λy hy k hk h0=>by
   rcases h.step y hy k hk h0 with q|q|q
   ·exact .inl q
   ·exact .inr (.inl ⟨q,by simp only;omega,by omega⟩)
   ·exact .inr (.inr q),h.key,h.least⟩,ya _⟩ (by simp) λt⟨t0,t2,hS,hm⟩=> ?_
 obtain⟨k,Q,Y⟩:=t;simp only at t0 t2 hS hm;have hl:=hS.len;have bx:V.ua x Q.length=true:=Sd x0 (by omega);have BO:((x.toNat:Nat):Int)=x:=by omega
 have w0:Ka ((0:Int)+1)=1:=by decide
 have w1:Ka ((1:Int)+1)=2:=by decide
 have z0:(0:Int)<2:=by decide
 have z1:(1:Int)<2:=by decide
 have z10:¬(1:Int)=0:=by decide
 have go:∀k:Int,k=0\/k=1->SI g O Q Y (λy k'=>y=x/\k<=k'/\k'<=1)->∃t':Int×List Ga×List (Int×Bool),(cond (decide (Ue g x.toNat k<(0:Int))) (some (.inl ((k+1),Q,Y))) ((vl (g,(gx Q x.toNat Kb),x,k)).bind λr1=>
   ask (V.ua (Ue g x.toNat k) (fa Q)) ((uq (r1,(gx Q (ia (Ue g x.toNat k)) Kb))).bind λr2=>
   cond (!r2)
   (ask (V.ua (Ue g x.toNat k) (fa Q)) ((aB ((gx Q (ia (Ue g x.toNat k)) Kb),r1)).bind λr3=>
   ask (V.ua (Ue g x.toNat k) (fa Q)) (some (.inl ((k+1),(Wb Q (ia (Ue g x.toNat k)) r3),(Mu (k:=(.int .i64)) (Ue g x.toNat k) true Y))))))
   (some (.inl ((k+1),Q,Y))))):Option ((Int×List Ga×List (Int×Bool)) ⊕ (List Ga×List (Int×Bool))))=some (.inl t')/\(0<=t'.1/\t'.1<=2/\SI g O t'.2.1 t'.2.2 (λy k'=>y=x/\t'.1<=k'/\k'<=1)/\mu g t'.2.1 t'.2.2<=mu g P W)/\t'.1=k+1:=λk hk hS=>by
  have hp:∀y k',(y=x/\k<=k'/\k'<=1)->(y=x/\k+1<=k'/\k'<=1)\/(y=x/\k'=k):=λy k'⟨e,a,b⟩=>by
   by_cases e2:k'=k
   ·exact .inr ⟨e,e2⟩
   ·exact .inl ⟨e,by omega,b⟩
  by_cases h0:Ue g x.toNat k<0
  ·rw[decide_eq_true h0];refine⟨_,rfl,⟨by simp only;omega,by simp only;omega,⟨hS.len,hS.st,hS.init,λy hy k' YL Xu=> ?_,hS.key,hS.least⟩,hm⟩,rfl⟩;rcases hS.step y hy k' YL Xu with q|q|q
   ·exact .inl q
   ·rcases hp y k' q with q|⟨rfl,rfl⟩
    ·exact .inr (.inl q)
    ·omega
   ·exact .inr (.inr q)
  ·rw[decide_eq_false h0];have h0:0<=Ue g x.toNat k:=by omega
   have sx:=hS.st x.toNat YC;obtain⟨f1,sr⟩:=Zn hG hn sx YC k;rw[BO]at f1;have Mc:=NG hG YC hk;have bn:V.ua (Ue g x.toNat k) Q.length=true:=Sd h0 (by omega);have sp:=hS.st (Ue g x.toNat k).toNat (by omega);obtain⟨ed1,ed2⟩:=hS.Oas hG hn hO (ou:=λy k'=>y=x/\k+1<=k'/\k'<=1) hx hk h0 hp;simp only[cond_false];rw[f1];simp only[da,bn,Fa];rw[BP (λh1 h2=>sr.pA hG sp h1 h2)];simp only[da];cases hle:Fl (ng g (gx Q x.toNat Kb) x.toNat k) (gx Q (Ue g x.toNat k).toNat Kb)
   ·obtain⟨s1,s2⟩:=ed2 hle;simp only[Sb,cond_true];rw[Hai sr.dd (sp.small hG) (sr.small hG) (λh1 h2=>sp.pA hG sr h1 h2)];simp only[da];refine⟨_,rfl,⟨by simp only;omega,by simp only;omega,s1,?_⟩,rfl⟩;have:=wR (i:=Ue g x.toNat k) (x:=true) Y;show mu g (Q.set (Ue g x.toNat k).toNat (Af (gx Q (Ue g x.toNat k).toNat Kb) (ng g (gx Q x.toNat Kb) x.toNat k))) (Ky (Ue g x.toNat k) true Y)<=mu g P W;have hm:mu g Q Y<=mu g P W:=hm;unfold mu at hm ⊢;omega
   ·simp only[Ub,cond_false];exact⟨_,rfl,⟨by simp only;omega,by simp only;omega,ed1 hle,hm⟩,rfl⟩
 have EA:k=0\/k=1\/k=2:=by omega
 rcases EA with rfl|rfl|rfl
 ·obtain⟨t',q1,q2,q3⟩:=go 0 (.inl rfl) hS;simp only[LD.m,Kl,z0,decide_true,cond_true,w0,bx,Fa];exact .inl ⟨t',q1,q2,by(try simp only);omega⟩
 ·obtain⟨t',q1,q2,q3⟩:=go 1 (.inr rfl) hS;simp only[LD.m,Kl,z1,z10,decide_true,decide_false,cond_true,cond_false,w1,bx,Fa];exact .inl ⟨t',q1,q2,by(try simp only);omega⟩
 ·simp only[LD.m,Kl,Tb,decide_false,cond_false];refine .inr ⟨_,rfl,⟨hS.len,hS.st,hS.init,λy hy k' YL Xu=> ?_,hS.key,hS.least⟩,hm⟩;rcases hS.step y hy k' YL Xu with q|q|q
  ·exact .inl q
  ·have:=q.2;omega
  ·exact .inr (.inr q)
theorem Yal(hG:Fe g D)(hn:ri g)(hO:Ij g O)(h:SI g O P W (λ_ _=>False)):
  ∃e,Ua (Az.m (O,O,(O.length:Int),g)) (0,P,W)=some e/\SI g O e.1 e.2 (λ_ _=>False)/\(mu g e.1 e.2<mu g P W\/∀q,q<O.length->Sm (gx O q (0:Int)) W=false):=by
 have hON:=hO.n;refine Gc (step:=Az.m (O,O,(O.length:Int),g)) (t:=(0,P,W)) (λt=>∃i:Nat,i<=O.length/\t.1=(i:Int)/\SI g O t.2.1 t.2.2 (λ_ _=>False)/\(mu g t.2.1 t.2.2<mu g P W\/(t.2=(P,W)/\∀q,q<i->Sm (gx O q (0:Int)) W=false))) (λt=>O.length-t.1.toNat) _
  ⟨0,Ac _,rfl,h,.inr ⟨rfl,λq hq=>absurd hq (Td _)⟩⟩ (by simp only;omega) λt⟨i,hi,ht,hS,hm⟩=> ?_
 obtain⟨ti,Q,Y⟩:=t;simp only at ht hS hm;subst ht;simp only[LD.m,Az];by_cases Mc:i<O.length
 ·have h':(i:Int)<(O.length:Int):=by omega
  have hx:gx O i (0:Int)∈O:=Eb (ym Mc);obtain⟨x0,x1⟩:=hO.dO _ hx;simp only[h',decide_true,cond_true,Tk Mc,Fa,Pa];rw[Ya (n:=(i:Int)+1) (by omega) (by omega)];have key:=λp hp=>(hS.key p hp).2
  cases hw:jD (k:=(.int .i64)) (gx O i (0:Int)) Y
  ·simp only[cond_false];refine .inl ⟨_,rfl,⟨i+1,Mc,by simp only;omega,hS,?_⟩,by simp only;omega⟩;rcases hm with hm|⟨e,hm⟩
   ·exact .inl hm
   ·refine .inr ⟨e,λq hq=> ?_⟩;by_cases e2:q=i
    ·subst e2;injection e with _ e
     rw[<- e];exact hw
    ·exact hm q (by omega)
  ·have hg:GB (k:=(.int .i64)) (gx O i (0:Int)) false Y=true:=B0 key hw;simp only[hg,Ub,cond_true,cond_false];have bx:V.ua (gx O i (0:Int)) (fa g.1)=true:=Sd x0 x1;simp only[bx,Fa];have hD:SI g O Q (eG (k:=(.int .i64)) (gx O i (0:Int)) Y) (λy _=>y=gx O i (0:Int)):=by
    refine⟨hS.len,hS.st,hS.init,λy hy k hk h0=> ?_,λp hp=>hS.key p (DU _ hp),hS.least⟩;by_cases e:y=gx O i (0:Int)
    ·exact .inr (.inl e)
    ·rcases hS.step y hy k hk h0 with q|q|q
     ·left;have:=uS (i:=gx O i (0:Int)) e Y;exact this.trans q
     ·exact q.elim
     ·exact .inr (.inr q)
   obtain⟨e,e1,e2,e3⟩:=saf (a:=O) (b:=O) (c:=O) (n:=(O.length:Int)) (i:=(i:Int)) hG hn hO hx hD;have e1':Ua (Kl.m (O,(gx O i (0:Int)),O,(O.length:Int),(i:Int),(gx g.1 (ia (gx O i (0:Int))) Pb).2.2.2.2.2.2,g)) (0,Q,(eG (k:=(.int .i64)) (gx O i (0:Int)) Y))=some e:=e1;rw[e1'];refine .inl ⟨_,rfl,⟨i+1,Mc,by simp only;omega,e2,.inl ?_⟩,by simp only;omega⟩;have hd:(VQ (gx O i (0:Int)) Y).length+1=Y.length:=EU _ hw;have e3:mu g e.1 e.2<=mu g Q (VQ (gx O i (0:Int)) Y):=e3;show mu g e.1 e.2<mu g P W;have hmu:mu g Q Y<=mu g P W:=by
    rcases hm with hm|⟨e,_⟩
    ·exact js hm
    ·injection e with a b;rw[a,b];exact ya _
   unfold mu at e3 hmu ⊢;omega
 ·have MK:i=O.length:=by omega
  subst MK;simp only[Tb,decide_false,cond_false];refine .inr ⟨_,rfl,hS,?_⟩;rcases hm with hm|⟨_,hm⟩
  ·exact .inl hm
  ·exact .inr hm
theorem wak(hG:Fe g D)(h:SI g O P W (λ_ _=>False)):RK g P<=1424967069929472:=by
 have h1:=mm (f:=λj=>rk (gx P j Kb)) (n:=g.1.length) λj hj=>JY hG (h.st j hj)
 have hN:=hG.N;generalize hc:(347892351057:Nat)=c at h1;have h2:=Vc c hN;have h3:=Db h1 h2;rw[<- hc]at h3;exact h3
theorem Pai(hG:Fe g D)(hn:ri g):∃P O,bB g=some P/\xu g=some O/\Ij g O/\L8 g O P/\∀l,L8 g O l->∀j,j<g.1.length->cj (gx P j Kb) (gx l j Kb):=by
 have hN:=hG.N;have gW:=hG.N1;obtain⟨O,o1,hO⟩:=Oah hG;unfold bB bU;have hT:ia (nt g.1.length)=g.1.length:=by simp[nt]
 have b1:(decide ((0:Int)<=nt g.1.length)&&decide (nt g.1.length<=nt g.1.length)&&decide (56 * nt g.1.length<=70368744177664)&&decide (nt g.1.length<9223372036854775808))=true:=by have hnt:nt g.1.length=(g.1.length:Int):=rfl;simp;omega
 have b3:V.ua 0 (fa (fb g.1.length ((false,([],[])):Ga)))=true:=Sd (by decide) (by simp;omega);simp only[hT,b1,Fa];rw[J4 (GI hG)];simp only[da,b3,Fa];rw[o1];simp only[da];obtain⟨R,hR⟩:∃R,fb g.1.length ((false,([],[])):Ga)=R:=⟨_,rfl⟩;have hRl:R.length=g.1.length:=by rw[<- hR];simp
 have iY:∀j,j<g.1.length->gx R j Kb=Ye:=λj hj=>by rw[<- hR];simp[gx,Qi,hj,Ye]
 rw[hR];have Q9:=NB hG;have hg:∀j,j<g.1.length->gx (R.set 0 (Bo g)) j Kb=if 0=j then Bo g else Ye:=λj hj=>by
  rw[Nc (by omega)];split
  ·rfl
  ·exact iY j hj
 have hS:SI g O (R.set 0 (Bo g)) [(0,true)] (λ_ _=>False):=by
  refine⟨by rw[Wa];exact hRl,λj hj=> ?_,by rw[hg 0 gW,if_pos rfl];exact cj.refl Q9,λx hx k hk h0=> ?_,λp hp=> ?_,λl hl j hj=> ?_⟩
  ·rw[hg j hj];split
   ·exact Q9
   ·exact .dead
  ·obtain⟨x0,x1⟩:=hO.dO x hx;by_cases e:x=0
   ·left;subst e;rfl
   ·refine .inr (.inr ?_);rw[hg x.toNat (by omega),if_neg (by omega),ZN hG (by omega)];exact .dead
  ·have:p=(0,true):=by simpa using hp
   subst this;exact⟨hO.z,rfl⟩
  ·rw[hg j hj];split
   ·rename_i e;subst e;exact hl.init
   ·exact .dead
 obtain⟨e,q1,q2⟩:=Gc (step:=Bz.m (O,g)) (t:=(R.set 0 (Bo g),[((0:Int),true)])) (λt=>SI g O t.1 t.2 (λ_ _=>False)) (λt=>mu g t.1 t.2) (λe=>SI g O e [] (λ_ _=>False)) hS (by
  have:=wak hG hS;simp only[mu,nc];omega) (λt hI=>by
  obtain⟨Q,Y⟩:=t;simp only at hI;simp only[LD.m,Bz,nt];by_cases hv:(0:Int)<(Y.length:Int)
  ·simp only[hv,decide_true,cond_true];obtain⟨e,e1,e2,e3⟩:=Yal hG hn hO hI;rw[e1];have Mc:mu g e.1 e.2<mu g Q Y:=by
    rcases e3 with e3|e3
    ·exact e3
    ·exfalso;cases Y with
     |nil=>simp at hv
     |cons p Y=>
      obtain⟨k1,k2⟩:=hI.key p Dd;obtain⟨q,q1,q2⟩:=(Ty (0:Int)).1 k1;have:=e3 q q1;obtain⟨a,b⟩:=p;simp only at q2;rw[q2,Ak]at this;simp at this
   exact .inl ⟨_,rfl,e2,Mc⟩
  ·simp only[hv,decide_false,cond_false];have:Y=[]:=Gb.1 (by omega);subst this;exact .inr ⟨_,rfl,hI⟩)
 have OY:Ua (Bz.m (O,g)) (Wb R 0 (true,(tu g,uu g)),Mu (k:=(.int .i64)) (0:Int) true ([]:List (Int×Bool)))=some e:=q1;rw[OY];refine⟨e,O,rfl,rfl,hO,⟨q2.len,q2.st,q2.init,λx hx k hk h0=> ?_⟩,q2.least⟩;rcases q2.step x hx k hk h0 with q|q|q
 ·cases q
 ·exact q.elim
 ·exact q
end
end Go.U
end
section
set_option maxRecDepth 20000
namespace Go.U
open Go
def I_(c:ga):Bool:=cond c.1 (decide (c.2.1=0)&&decide (c.2.2=0)) (decide (0<=c.2.1)&&eqb (nf c.2.1 c.2.2) c)
def lM(c:ga):Bool:= !c.1&&I_ c
def Pw(l:List ga):Bool:=(mb l.length).all λi=>lM (gx l i Aa)
theorem iaf{c:ga}(h:CI c)(hb:c.1=false):VA c=some (I_ c):=by
 obtain⟨⟨h1,h2⟩,h3,h4⟩:=h;unfold VA xM I_;rw[hb];simp only[cond_false];by_cases hm:0<=c.2.1
 ·simp only[hm,decide_true,cond_true,Od];rw[Er h1 h2 h3 h4,show(c.2.1.natAbs:Int)=c.2.1 by omega];simp only[da];obtain⟨b,m,x⟩:=c;simp only at hb;subst hb;unfold eqb;rcases nf m x with⟨b1,m1,x1⟩
  have e1:decide (m=m1)=decide (m1=m):=decide_eq_decide.2 eq_comm;have e2:decide (x=x1)=decide (x1=x):=decide_eq_decide.2 eq_comm;cases b1<;>simp only[e1,e2]<;>rfl
 ·simp[hm]
theorem RY{l:List ga}{n:Int}(hl:l.length<=9223372036854775807)(hc:∀c∈l,CI c):xx (l,n)=some (decide ((l.length:Int)=n)&&Pw l):=by
 unfold xx HM;simp only[nt];by_cases hn:(l.length:Int)=n
 ·subst hn;simp only[decide_true,Ub,cond_false,Od];rw[Zh (n:=l.length) hl (p:=λi=>lM (gx l i Aa)) (λi hi=>by
   have h':(i:Int)<(l.length:Int):=by omega
   simp only[LD.m,Ir,h',decide_true,cond_true,Tk hi,Fa,Pa];unfold lM;cases hb:(gx l i Aa).1
   ·simp only[cond_false];rw[iaf (hc _ (Eb (ym hi))) hb];simp only[da,Sb,Od];cases I_ (gx l i Aa)<;>rfl
   ·rfl) (by
   simp only[LD.m,Ir,Tb,decide_false,cond_false])]
  simp only[da];show _=some (Pw l);unfold Pw;cases(mb l.length).all λi=>lM (gx l i Aa)<;>rfl
 ·simp[hn]
def QI(g:Ba)(s:Ga):Bool:=cond s.1 (decide ((s.2.1.length:Int)=(af g).length)&&(decide ((s.2.2.length:Int)=(Rg g).length)&&(Pw s.2.1&&Pw s.2.2))) (decide ((s.2.1.length:Int)=0)&&decide ((s.2.2.length:Int)=0))
theorem W6{g:Ba}{s:Ga}(h:tF s):Au (g,s)=some (QI g s):=by
 unfold Au BH QI;cases hb:s.1
 ·simp only[Sb,cond_true,cond_false,nt];by_cases e1:(s.2.1.length:Int)=0
  ·simp[e1]
  ·have e2:¬s.2.1=[]:=λe=>e1 (by rw[e];rfl)
   simp[e2]
 ·simp only[Ub,cond_true,cond_false,nt];rw[RY h.a h.ca];simp only[da];by_cases e1:(s.2.1.length:Int)=(fa g.2.2.2.2.2.1:Int)
  ·simp only[e1,decide_true,Od];cases Pw s.2.1
   ·simp
   ·simp only[cond_true,Od];rw[RY h.b h.cb];rfl
  ·simp[e1]
end Go.U
end
section
set_option maxRecDepth 20000
namespace Go.U
open Go
section
variable {g:Ba}{D:List Int}{O:List Int}{l:List Ga}
noncomputable def OF(g:Ba)(l:List Ga)(x:Int)(k:Int):Bool:=cond (decide (0<=Ue g x.toNat k)) (Fl (ng g (gx l x.toNat Kb) x.toNat k) (gx l (Ue g x.toNat k).toNat Kb)) true
noncomputable def ju(g:Ba)(l:List Ga)(x:Int):Bool:=OF g l x 0&&OF g l x 1
theorem Wal(hG:Fe g D)(hn:ri g)(hlen:l.length=g.1.length)(Ec:∀j,j<l.length->Jj g (gx l j Kb)){x:Int}(x0:0<=x)(x1:x<(g.1.length:Int)){a:List Int}{n i:Int}:
  Ua (Vp.m (l,x,a,n,i,(at' g x.toNat).2.2.2.2.2.2,g)) 0=some (cond (ju g l x) (.inr ()) (.inl ())):=by
 have YC:x.toNat<g.1.length:=by omega
 have BO:((x.toNat:Nat):Int)=x:=by omega
 have z0:(0:Int)<2:=by decide
 have z1:(1:Int)<2:=by decide
 have z10:¬(1:Int)=0:=by decide
 have bx:V.ua x l.length=true:=Sd x0 (by omega);have sx:=Ec x.toNat (by omega);have go:∀k:Int,k=0\/k=1->∀(y:Int ⊕ (Unit ⊕ Unit)),(cond (decide ((0:Int)<=Ue g x.toNat k)) ((vl (g,(gx l x.toNat Kb),x,k)).bind λr1=>
   ask (V.ua (Ue g x.toNat k) (fa l)) ((uq (r1,(gx l (ia (Ue g x.toNat k)) Kb))).bind λr2=>cond (!r2) (some (.inr (.inl ()))) (some y))) (some y):Option (Int ⊕ (Unit ⊕ Unit)))=some (cond (OF g l x k) y (.inr (.inl ()))):=λk hk y=>by
  unfold OF;by_cases h0:0<=Ue g x.toNat k
  ·have Mc:=NG hG YC hk;obtain⟨f1,sr⟩:=Zn hG hn sx YC k;rw[BO]at f1;have bn:V.ua (Ue g x.toNat k) l.length=true:=Sd h0 (by omega);simp only[h0,decide_true,cond_true];rw[f1];simp only[da,bn,Fa];rw[BP (λh1 h2=>sr.pA hG (Ec (Ue g x.toNat k).toNat (by omega)) h1 h2)];simp only[da];cases Fl (ng g (gx l x.toNat Kb) x.toNat k) (gx l (Ue g x.toNat k).toNat Kb)<;>rfl
  ·simp only[h0,decide_false,cond_false,cond_true]
 have:=Zh (n:=2) (by decide) (p:=λk=>OF g l x (k:Int)) (step:=Vp.m (l,x,a,n,i,(at' g x.toNat).2.2.2.2.2.2,g)) (λk hk=>by
  have EA:k=0\/k=1:=by omega
  rcases EA with rfl|rfl
  ·have:=go 0 (.inl rfl) (.inl (Ka ((0:Int)+1)));simp only[LD.m,Vp,Int.natCast_zero,z0,decide_true,cond_true,bx,Fa];exact this
  ·have:=go 1 (.inr rfl) (.inl (Ka ((1:Int)+1)));have e1:((1:Nat):Int)=1:=rfl;simp only[LD.m,Vp,e1,z1,z10,decide_true,decide_false,cond_true,cond_false,bx,Fa];exact this) (by
  have e2:((2:Nat):Int)=2:=rfl;simp only[LD.m,Vp,e2,Tb,decide_false,cond_false])
 rw[this];have e:((mb 2).all λk=>OF g l x (k:Int))=ju g l x:=by
  unfold ju;have:mb 2=[0,1]:=rfl;rw[this]
  simp
 rw[e]
theorem Lai(hG:Fe g D)(hn:ri g)(ho:xu g=some O)(hO:Ij g O)(Ec:∀j,j<l.length->Jj g (gx l j Kb)):∃b,oE (g,l)=some b/\(b=true↔L8 g O l):=by
 have gW:=hG.N1;have hON:=hO.n;unfold oE YT;by_cases hlen:l.length=g.1.length
 ·have hd:decide (nt l.length=nt g.1.length)=true:=decide_eq_true (by rw[hlen]);have b0:V.ua 0 l.length=true:=Sd (by decide) (by omega);simp only[hd,Ub,cond_false];rw[J4 (GI hG)];simp only[da,b0,Fa];have si:=NB hG;have s0:=Ec 0 (by omega);rw[show((true,(tu g,uu g)):Ga)=Bo g from rfl,BP (λh1 h2=>si.pA hG s0 h1 h2)];simp only[da];cases hi:Fl (Bo g) (gx l 0 Kb)
  ·refine⟨false,rfl,λh=>(by cases h),λh=> ?_⟩;rw[h.init.leq]at hi;cases hi
  ·simp only[Ub,cond_false];rw[ho];simp only[da];have:=Zh (n:=O.length) (by omega) (p:=λi=>ju g l (gx O i (0:Int))) (step:=xz.m (l,O,nt O.length,g)) (λi hi=>by
    have h':(i:Int)<(O.length:Int):=by omega
    obtain⟨x0,x1⟩:=hO.dO _ (Eb (ym (d:=(0:Int)) hi));have bx:V.ua (gx O i (0:Int)) g.1.length=true:=Sd x0 x1;simp only[LD.m,xz,nt,h',decide_true,cond_true,Tk hi,Fa,Pa,bx];have e:=Wal (a:=O) (n:=(O.length:Int)) (i:=(i:Int)) hG hn hlen Ec x0 x1;have e':Ua (Vp.m (l,(gx O i (0:Int)),O,(O.length:Int),(i:Int),(gx g.1 (ia (gx O i (0:Int))) Pb).2.2.2.2.2.2,g)) 0=some (cond (ju g l (gx O i (0:Int))) (.inr ()) (.inl ())):=e;rw[e'];simp only[da];cases ju g l (gx O i (0:Int))<;>rfl) (by
    simp only[LD.m,xz,nt,Tb,decide_false,cond_false])
   rw[this];simp only[da];have key:((mb O.length).all λi=>ju g l (gx O i (0:Int)))=true↔L8 g O l:=by
    rw[ec];constructor
    ·intro h;refine⟨hlen,λj hj=>Ec j (by omega),Ys si s0 hi,λx hx k hk h0=> ?_⟩;obtain⟨q,q1,q2⟩:=(Ty (0:Int)).1 hx;obtain⟨x0,x1⟩:=hO.dO x hx;have hw:=h q (jg.2 q1);rw[q2]at hw;unfold ju at hw;rw[Ab]at hw;have Mc:=NG hG (j:=x.toNat) (by omega) hk;have hw:OF g l x k=true:=by rcases hk with rfl|rfl;exact hw.1;exact hw.2
     unfold OF at hw;rw[decide_eq_true h0]at hw;exact Ys (Zn hG hn (Ec x.toNat (by omega)) (by omega) k).2 (Ec _ (by omega)) hw
    ·intro h i hi;have hx:gx O i (0:Int)∈O:=Eb (ym (jg.1 hi));have one:∀k:Int,k=0\/k=1->OF g l (gx O i (0:Int)) k=true:=λk hk=>by
      unfold OF;by_cases h0:0<=Ue g (gx O i (0:Int)).toNat k
      ·rw[decide_eq_true h0];exact(h.step _ hx k hk h0).leq
      ·rw[decide_eq_false h0];rfl
     unfold ju;rw[one 0 (.inl rfl),one 1 (.inr rfl)];rfl
   cases hb:(mb O.length).all λi=>ju g l (gx O i (0:Int))
   ·exact⟨false,rfl,λh=>(by cases h),λh=>by rw[key.2 h]at hb;cases hb⟩
   ·exact⟨true,rfl,λ_=>key.1 hb,λ_=>rfl⟩
 ·have hd:decide (nt l.length=nt g.1.length)=false:=decide_eq_false λe=>hlen (by simp only[nt]at e;omega)
  simp only[hd,Sb,cond_true];exact⟨false,rfl,λh=>(by cases h),λh=>absurd h.len hlen⟩
theorem sal(h:tF (gx l 0 Kb)\/True){s:Ga}(hL:tF s)(hf:QI g s=true):Jj g s:=by
 have he:=W6 (g:=g) hL;obtain⟨r,r1,r2⟩:=Maj (g:=g) hL;rw[he]at r1;injection r1 with r1
 have hF:=r2 (r1 ▸ hf);rw[hf]at he;have Kg:s.1=true->Pw s.2.1=true/\Pw s.2.2=true:=λh1=>by
  unfold QI at hf;rw[h1]at hf;simp only[cond_true,Ab]at hf;exact hf.2.2
 have live:∀{v:List ga},Pw v=true->∀j,j<v.length->(gx v j Aa).1=false:=λhv j hj=>by
  have:=ec.1 hv j (jg.2 hj);unfold lM at this;rw[Ab]at this
  simpa using this.1
 exact⟨λh1=>⟨(hF h1).sl,(hF h1).sc,live (Kg h1).1⟩,λh1=>⟨(hF h1).il,(hF h1).ic,live (Kg h1).2⟩,X6 he⟩
theorem Sai(hn:l.length<=9223372036854775807)(hL:∀j,j<l.length->tF (gx l j Kb)):qE (g,l)=some ((mb l.length).all λi=>QI g (gx l i Kb)):=by
 unfold qE cU;rw[Zh (n:=l.length) hn (p:=λi=>QI g (gx l i Kb)) (λi hi=>by
  have h':(i:Int)<(l.length:Int):=by omega
  simp only[LD.m,rE,nt,h',decide_true,cond_true,Tk hi,Fa,Pa];rw[W6 (hL i hi)];simp only[da];cases QI g (gx l i Kb)<;>rfl) (by
  simp only[LD.m,rE,nt,Tb,decide_false,cond_false])]
 simp only[da];cases(mb l.length).all λi=>QI g (gx l i Kb)<;>rfl
end
end Go.U
end
