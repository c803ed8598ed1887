/- What these Lean functions compute: plain arithmetic of congruences, the checks of a graph, the values of its registers. -/
import Derived.Test.YtcbcifeaalkdfaaGreatDoorD5
import Derived.Test.YtcbcifeaalkdfaaGreatDoorD4
import Derived.Test.YtcbcifeaalkdfaaGreatDoorD6
set_option linter.unusedVariables false
set_option linter.unusedSimpArgs false
set_option linter.unusedSectionVars false
section
set_option maxRecDepth 20000
namespace Go.U
open Go
theorem mem_gx {α:Type} {l:List α} {x:α} (d:α):x∈l↔∃ q,q<l.length∧gx l q d=x:=by
 constructor
 · intro h
   obtain ⟨q,hq⟩:=List.mem_iff_getElem?.1 h
   have hl:q<l.length:=by
    rcases Nat.lt_or_ge q l.length with h|h
    · exact h
    · rw [List.getElem?_eq_none h] at hq;cases hq
   exact ⟨q,hl,by have:=gx_lt (d:=d) hl;rw [hq] at this;injection this with this;exact this.symm⟩
 · rintro ⟨q,hq,rfl⟩
   exact List.mem_of_getElem? (gx_lt hq)
theorem swap_mem {l:List Int} {i j:Nat} (hi:i<l.length) (hj:j<l.length) (x:Int):x∈List.set (List.set l i (gx l j 0)) j (gx l i 0)↔x∈l:=by
 rw [mem_gx 0,mem_gx 0]
 simp only [List.length_set]
 constructor
 · rintro ⟨q,hq,e⟩
   rw [gx_set (by simpa using hj)] at e
   split at e
   · exact ⟨i,hi,e⟩
   · rw [gx_set hi] at e
     split at e
     · exact ⟨j,hj,e⟩
     · exact ⟨q,hq,e⟩
 · rintro ⟨q,hq,e⟩
   by_cases h1:q=i
   · subst h1;exact ⟨j,hj,by rw [gx_set (by simpa using hj),if_pos rfl];exact e⟩
   · by_cases h2:q=j
     · subst h2
       exact ⟨i,hi,by rw [gx_set (by simpa using hj),if_neg (fun e=>h1 e),gx_set hi,if_pos rfl];exact e⟩
     · exact ⟨q,hq,by rw [gx_set (by simpa using hj),if_neg (fun e=>h2 e.symm),gx_set hi,if_neg (fun e=>h1 e.symm)];exact e⟩
theorem f156_eq {l:List Int} (hn:l.length≤1048576):∃ r,f156_m l=some r∧r.length=l.length∧∀ x,x∈r↔x∈l:=by
 unfold f156_m f156_c
 simp only [nt]
 rw [wi64_of (n:=(l.length:Int)-1) (by omega) (by omega)]
 obtain ⟨e,h1,h2⟩:=loopAll_of (step:=f156_l1.m ()) (t:=(0,(l.length:Int)-1,l)) (fun t=>0≤t.1∧t.1≤1048576∧t.1+t.2.1=(l.length:Int)-1∧t.2.2.length=l.length∧∀ x,x∈t.2.2↔x∈l) (fun t=>(t.2.1+1).toNat) (fun e=>e.length=l.length∧∀ x,x∈e↔x∈l)
  ⟨by show (0:Int)≤0;decide,by show (0:Int)≤1048576;decide,by simp,rfl,fun _=>Iff.rfl⟩ (by simp only;omega) (fun t ⟨a1,a2,a3,a4,a5⟩=>by
   obtain ⟨i,j,r⟩:=t
   simp only at a1 a2 a3 a4 a5
   simp only [LD.m,f156_l1]
   by_cases h:i<j
   · have b1:V.inRange j r.length=true:=inRI (by omega) (by omega)
     have b2:V.inRange i r.length=true:=inRI a1 (by omega)
     have b3:V.inRange j (List.length (List.set r i.toNat (gx r j.toNat (0:Int))))=true:=inRI (by omega) (by rw [List.length_set];omega)
     simp only [h,decide_true,cond_true,b1,b2,b3,ask_true]
     rw [wi64_of (n:=i+1) (by omega) (by omega),wi64_of (n:=j-1) (by omega) (by omega)]
     exact .inl ⟨_,rfl,⟨by simp only;omega,by simp only;omega,by simp only;omega,by simp [a4],fun x=>(swap_mem (by omega) (by omega) x).trans (a5 x)⟩,by simp only;omega⟩
   · simp only [h,decide_false,cond_false]
     exact .inr ⟨_,rfl,a4,a5⟩)
 rw [h1]
 exact ⟨_,rfl,h2⟩
theorem countP_upd {α:Type} {p:α→Bool} {d a:α}:∀ {l:List α} {i:Nat},i<l.length→List.countP p (l.set i a)+(if p (gx l i d)=true then 1 else 0)=List.countP p l+(if p a=true then 1 else 0)
 |x::l,0,_=>by
  rw [List.set_cons_zero,List.countP_cons,List.countP_cons]
  show _+(if p x=true then 1 else 0)=_
  omega
 |x::l,i+1,h=>by
  have:=countP_upd (p:=p) (d:=d) (a:=a) (l:=l) (i:=i) (by simpa using h)
  rw [List.set_cons_succ,List.countP_cons,List.countP_cons]
  show _+(if p (gx l i d)=true then 1 else 0)=_
  omega
def nxt (g:TGraph) (j:Nat) (k:Int):Int:=if k=0 then (at' g j).2.2.2.2.2.2.1 else (at' g j).2.2.2.2.2.2.2
structure OrdOK (g:TGraph) (l:List Int):Prop where
 n:l.length≤4096
 rng:∀ x∈l,0≤x∧x<(g.1.length:Int)
 z:(0:Int)∈l
 cl:∀ x∈l,∀ k:Int,k=0∨k=1→0≤nxt g x.toNat k→nxt g x.toNat k∈l
section
variable {g:TGraph} {D:List Int}
def seen (M:List TMark) (x:Int):Prop:=0≤x∧x<(M.length:Int)∧(gx M x.toNat dMark).1=true
structure DI (g:TGraph) (O:List Int) (M:List TMark) (S:List TItv):Prop where
 len:M.length=g.1.length
 st:∀ q,q<S.length→seen M (gx S q dItv).1∧0≤(gx S q dItv).2∧(gx S q dItv).2≤2∧∀ k:Int,0≤k→k<(gx S q dItv).2→0≤nxt g (gx S q dItv).1.toNat k→seen M (nxt g (gx S q dItv).1.toNat k)
 ord:∀ x∈O,seen M x∧∀ k:Int,k=0∨k=1→0≤nxt g x.toNat k→seen M (nxt g x.toNat k)
 cov:∀ x,seen M x→x∈O∨∃ q,q<S.length∧(gx S q dItv).1=x
 cnt:O.length+S.length=List.countP (fun m:TMark=>m.1) M
 dn:∀ j,j<M.length→(gx M j dMark).1=false→(gx M j dMark).2=false
 z:seen M 0
theorem seen_set {M:List TMark} {i:Nat} {m:TMark} (hi:i<M.length) (hm:(gx M i dMark).1=true→m.1=true) {x:Int} (h:seen M x):seen (M.set i m) x:=by
 obtain ⟨h1,h2,h3⟩:=h
 refine ⟨h1,by rw [List.length_set];exact h2,?_⟩
 rw [gx_set hi]
 split
 · rename_i e;rw [← e] at h3;exact hm h3
 · exact h3
theorem seen_back {M:List TMark} {i:Nat} {m:TMark} (hi:i<M.length) {x:Int} (h:seen (M.set i m) x):seen M x∨(x=(i:Int)∧m.1=true):=by
 obtain ⟨h1,h2,h3⟩:=h
 rw [List.length_set] at h2
 rw [gx_set hi] at h3
 split at h3
 · rename_i e;exact .inr ⟨by omega,h3⟩
 · exact .inl ⟨h1,h2,h3⟩
theorem gx_app {α:Type} {l:List α} {a d:α} {q:Nat}:gx (l++[a]) q d=if q<l.length then gx l q d else if q=l.length then a else d:=by
 simp only [gx,List.getD]
 by_cases h:q<l.length
 · rw [if_pos h,List.getElem?_append_left h]
 · rw [if_neg h,List.getElem?_append_right (by omega)]
   by_cases e:q=l.length
   · rw [if_pos e];subst e;simp
   · rw [if_neg e]
     have:q-l.length≠0:=by omega
     rw [List.getElem?_eq_none (by simp;omega)];rfl
theorem gx_take {α:Type} {l:List α} {d:α} {i q:Nat} (h:q<i):gx (l.take i) q d=gx l q d:=by
 simp only [gx,List.getD,List.getElem?_take,if_pos h]
theorem DI.push {O:List Int} {M:List TMark} {S:List TItv} (h:DI g O M S) {i:Nat} (hi:i+1=S.length) {k n:Int} (hk:0≤k) (hk1:k≤1) (hs:∀ j:Int,0≤j→j<k→0≤nxt g (gx S i dItv).1.toNat j→seen M (nxt g (gx S i dItv).1.toNat j)) (hn:nxt g (gx S i dItv).1.toNat k=n) (hn0:0≤n) (hn1:n<(g.1.length:Int)) (hw:(gx M n.toNat dMark).1=false):
   DI g O (M.set n.toNat (true,(gx M n.toNat dMark).2)) ((S.set i ((gx S i dItv).1,k+1))++[(n,0)]):=by
 have hl:=h.len
 have hnM:n.toNat<M.length:=by omega
 have mono:∀ {x:Int},seen M x→seen (M.set n.toNat (true,(gx M n.toNat dMark).2)) x:=fun hx=>seen_set hnM (fun _=>rfl) hx
 have sn:seen (M.set n.toNat (true,(gx M n.toNat dMark).2)) n:=⟨hn0,by rw [List.length_set];omega,by rw [gx_set hnM,if_pos rfl]⟩
 refine ⟨by rw [List.length_set];exact hl,fun q hq=> ?_,fun x hx=>⟨mono (h.ord x hx).1,fun j hj h0=>mono ((h.ord x hx).2 j hj h0)⟩,fun x hx=> ?_,?_,fun j hj hj1=> ?_,mono h.z⟩
 · rw [List.length_append,List.length_set,List.length_singleton] at hq
   rw [gx_app,List.length_set]
   by_cases hqS:q<S.length
   · rw [if_pos hqS,gx_set (by omega)]
     by_cases e:i=q
     · subst e
       rw [if_pos rfl]
       refine ⟨mono (h.st i hqS).1,by simp only;omega,by simp only;omega,fun j j0 j1 j2=> ?_⟩
       simp only at j1 j2 ⊢
       by_cases e:j=k
       · subst e;rw [hn];exact sn
       · exact mono (hs j j0 (by omega) j2)
     · rw [if_neg e]
       obtain ⟨s1,s2,s3,s4⟩:=h.st q hqS
       exact ⟨mono s1,s2,s3,fun j j0 j1 j2=>mono (s4 j j0 j1 j2)⟩
   · rw [if_neg hqS,if_pos (by omega)]
     exact ⟨sn,Int.le_refl _,by show (0:Int)≤2;decide,fun j j0 j1=>by simp only at j1;omega⟩
 · rcases seen_back hnM hx with hx|⟨hx,_⟩
   · rcases h.cov x hx with h1|⟨q,q1,q2⟩
     · exact .inl h1
     · refine .inr ⟨q,by simp;omega,?_⟩
       rw [gx_app,List.length_set,if_pos q1,gx_set (by omega)]
       split
       · rename_i e;subst e;exact q2
       · exact q2
   · refine .inr ⟨S.length,by simp,?_⟩
     rw [gx_app,List.length_set,if_neg (by omega),if_pos rfl];simp only;omega
 · have:=countP_upd (p:=fun m:TMark=>m.1) (d:=dMark) (a:=(true,(gx M n.toNat dMark).2)) hnM
   simp only [hw,Bool.false_eq_true,if_false,if_true] at this
   have:=h.cnt
   simp only [List.length_append,List.length_set,List.length_singleton];omega
 · rw [List.length_set] at hj
   rw [gx_set hnM] at hj1 ⊢
   split
   · rename_i e;rw [if_pos e] at hj1;cases hj1
   · rename_i e;rw [if_neg e] at hj1;exact h.dn j hj hj1
theorem DI.pop {O:List Int} {M:List TMark} {S:List TItv} (h:DI g O M S) {i:Nat} (hi:i+1=S.length) (hs:∀ j:Int,0≤j→j<2→0≤nxt g (gx S i dItv).1.toNat j→seen M (nxt g (gx S i dItv).1.toNat j)):
   DI g (O++[(gx S i dItv).1]) (M.set (gx S i dItv).1.toNat ((gx M (gx S i dItv).1.toNat dMark).1,true)) ((S.set i ((gx S i dItv).1,2)).take i):=by
 have hl:=h.len
 obtain ⟨sx,_⟩:=h.st i (by omega)
 obtain ⟨x0,x1,x2⟩:=sx
 generalize hx:(gx S i dItv).1=x at *
 have hxM:x.toNat<M.length:=by omega
 have mono:∀ {y:Int},seen M y→seen (M.set x.toNat ((gx M x.toNat dMark).1,true)) y:=fun hy=>seen_set (m:=((gx M x.toNat dMark).1,true)) hxM (fun e=>e) hy
 have hlen:(List.take i (S.set i (x,2))).length=i:=by rw [List.length_take,List.length_set];omega
 refine ⟨by rw [List.length_set];exact hl,fun q hq=> ?_,fun y hy=> ?_,fun y hy=> ?_,?_,fun j hj hj1=> ?_,mono h.z⟩
 · rw [hlen] at hq
   rw [gx_take hq,gx_set (by omega),if_neg (by omega)]
   obtain ⟨s1,s2,s3,s4⟩:=h.st q (by omega)
   exact ⟨mono s1,s2,s3,fun j j0 j1 j2=>mono (s4 j j0 j1 j2)⟩
 · rcases List.mem_append.1 hy with hy|hy
   · exact ⟨mono (h.ord y hy).1,fun j hj h0=>mono ((h.ord y hy).2 j hj h0)⟩
   · have:y=x:=by simpa using hy
     subst this
     exact ⟨mono ⟨x0,x1,x2⟩,fun j hj h0=>mono (hs j (by omega) (by omega) h0)⟩
 · have hy:seen M y:=by
     rcases seen_back hxM hy with hy|⟨e,_⟩
     · exact hy
     · have:y=x:=by omega
       subst this;exact ⟨x0,x1,x2⟩
   rcases h.cov y hy with h1|⟨q,q1,q2⟩
   · exact .inl (List.mem_append_left _ h1)
   · by_cases e:q=i
     · subst e;rw [hx] at q2;subst q2;exact .inl (by simp)
     · refine .inr ⟨q,by rw [hlen];omega,?_⟩
       rw [gx_take (by omega),gx_set (by omega),if_neg (by omega)];exact q2
 · have:=countP_upd (p:=fun m:TMark=>m.1) (d:=dMark) (a:=((gx M x.toNat dMark).1,true)) hxM
   have:=h.cnt
   rw [List.length_append,hlen,List.length_singleton]
   simp only at *
   omega
 · rw [List.length_set] at hj
   rw [gx_set hxM] at hj1 ⊢
   split
   · rename_i e;rw [if_pos e] at hj1;simp only at hj1;rw [x2] at hj1;cases hj1
   · rename_i e;rw [if_neg e] at hj1;exact h.dn j hj hj1
end
end Go.U
end
section
set_option maxRecDepth 20000
namespace Go.U
open Go
theorem set_gx {α:Type} {l:List α} {i:Nat} {d:α} (h:i<l.length):l.set i (gx l i d)=l:=by
 refine List.ext_getElem (by simp) fun k h1 h2=> ?_
 rw [List.getElem_set]
 split
 · rename_i e;subst e;simp [gx,List.getD,h]
 · rfl
section
variable {g:TGraph} {D:List Int}
theorem l115_7 (hG:FitG g D) {O Z:List Int} {M:List TMark} {S:List TItv} (h:DI g O M S) {i:Nat} (hi:i+1=S.length):
   ∃ e,loopAll (f115_l7.m (i,g,g,O,Z,M)) S=some e∧((∃ k n:Int,0≤k∧k≤1∧(∀ j:Int,0≤j→j<k→0≤nxt g (gx S i dItv).1.toNat j→seen M (nxt g (gx S i dItv).1.toNat j))∧nxt g (gx S i dItv).1.toNat k=n∧0≤n∧n<(g.1.length:Int)∧(gx M n.toNat dMark).1=false∧e= .inl (M.set n.toNat (true,(gx M n.toNat dMark).2),(S.set i ((gx S i dItv).1,k+1))++[(n,0)]))∨
     ((∀ j:Int,0≤j→j<2→0≤nxt g (gx S i dItv).1.toNat j→seen M (nxt g (gx S i dItv).1.toNat j))∧e= .inr (S.set i ((gx S i dItv).1,2)))):=by
 have hN:=hG.N
 have hl:=h.len
 have hiS:i<S.length:=by omega
 obtain ⟨⟨x0,x1,_⟩,c0,c2,hc⟩:=h.st i hiS
 have hS:S.length≤4096:=by
   have:=h.cnt
   have:=List.countP_le_length (p:=fun m:TMark=>m.1) (l:=M)
   omega
 generalize hx:(gx S i dItv).1=x at *
 have hxN:x.toNat<g.1.length:=by omega
 have nx:=(hG.good x.toNat hxN).nx
 refine loopAll_of (step:=f115_l7.m (i,g,g,O,Z,M)) (t:=S) (fun t=>∃ k:Int,0≤k∧k≤2∧t=S.set i (x,k)∧∀ j:Int,0≤j→j<k→0≤nxt g x.toNat j→seen M (nxt g x.toNat j)) (fun t=>2-(gx t i dItv).2.toNat) _
   ⟨(gx S i dItv).2,c0,c2,by rw [← hx];exact (set_gx hiS).symm,hc⟩ (by show 2-_<_;omega) fun t ⟨k,k0,k2,ht,hk⟩=> ?_
 subst ht
 have e1:gx (S.set i (x,k)) i dItv=(x,k):=by rw [gx_set hiS,if_pos rfl]
 have e2:∀ y:Int,(gx (S.set i (x,y)) i dItv).2=y:=fun y=>by rw [gx_set hiS,if_pos rfl]
 have bx:V.inRange x g.1.length=true:=inRI x0 (by omega)
 have bm:(decide (((List.length (S.set i (x,k+1)))+1) * 16≤70368744177664)&&decide (((List.length (S.set i (x,k+1)))+1)<9223372036854775808))=true:=by simp;omega
 have skip:k≤1→(0≤nxt g x.toNat k→seen M (nxt g x.toNat k))→∃ k':Int,0≤k'∧k'≤2∧S.set i (x,k+1)=S.set i (x,k')∧∀ j:Int,0≤j→j<k'→0≤nxt g x.toNat j→seen M (nxt g x.toNat j):=fun h1 hs=>⟨k+1,by omega,by omega,rfl,fun j j0 j1 j2=>by
   by_cases e:j=k
   · subst e;exact hs j2
   · exact hk j j0 (by omega) j2⟩
 have go:∀ n:Int,k≤1→nxt g x.toNat k=n→n<(g.1.length:Int)→
     (∃ t',(cond (decide ((0:Int)≤n)) (ask (V.inRange n (List.length M)) (cond (((gx M n.toNat dMark).1==false)&&(((gx M n.toNat dMark).2==false)&&true))
       (ask (V.inRange n (List.length M)) (ask (decide (((List.length (S.set i (x,k+1)))+1) * 16≤70368744177664)&&decide (((List.length (S.set i (x,k+1)))+1)<9223372036854775808)) (some (.inr (.inl ((List.set M n.toNat (true,(gx M n.toNat dMark).2)),(S.set i (x,k+1)++([(n,0)]:List TItv))))))))
       (some (.inl (S.set i (x,k+1)))))) (some (.inl (S.set i (x,k+1)))):Option (List TItv ⊕ ((List TMark×List TItv) ⊕ List TItv)))=some (.inl t')∧(∃ k':Int,0≤k'∧k'≤2∧t'=S.set i (x,k')∧∀ j:Int,0≤j→j<k'→0≤nxt g x.toNat j→seen M (nxt g x.toNat j))∧2-(gx t' i dItv).2.toNat<2-k.toNat)∨
     ∃ e,(cond (decide ((0:Int)≤n)) (ask (V.inRange n (List.length M)) (cond (((gx M n.toNat dMark).1==false)&&(((gx M n.toNat dMark).2==false)&&true))
       (ask (V.inRange n (List.length M)) (ask (decide (((List.length (S.set i (x,k+1)))+1) * 16≤70368744177664)&&decide (((List.length (S.set i (x,k+1)))+1)<9223372036854775808)) (some (.inr (.inl ((List.set M n.toNat (true,(gx M n.toNat dMark).2)),(S.set i (x,k+1)++([(n,0)]:List TItv))))))))
       (some (.inl (S.set i (x,k+1)))))) (some (.inl (S.set i (x,k+1)))):Option (List TItv ⊕ ((List TMark×List TItv) ⊕ List TItv)))=some (.inr e)∧((∃ k n:Int,0≤k∧k≤1∧(∀ j:Int,0≤j→j<k→0≤nxt g x.toNat j→seen M (nxt g x.toNat j))∧nxt g x.toNat k=n∧0≤n∧n<(g.1.length:Int)∧(gx M n.toNat dMark).1=false∧e= .inl (M.set n.toNat (true,(gx M n.toNat dMark).2),(S.set i (x,k+1))++[(n,0)]))∨
       ((∀ j:Int,0≤j→j<2→0≤nxt g x.toNat j→seen M (nxt g x.toNat j))∧e= .inr (S.set i (x,2)))):=fun n k1 hn hnN=>by
   have mu:2-(gx (S.set i (x,k+1)) i dItv).2.toNat<2-k.toNat:=by rw [e2];omega
   by_cases n0:(0:Int)≤n
   · have bn:V.inRange n M.length=true:=inRI n0 (by omega)
     simp only [n0,decide_true,cond_true,bn,ask_true]
     cases hw:(gx M n.toNat dMark).1
     · have hd:=h.dn n.toNat (by omega) hw
       simp only [hd,beq_self_eq_true,Bool.and_self,cond_true,bm,ask_true]
       exact .inr ⟨_,rfl,.inl ⟨k,n,k0,k1,hk,hn,n0,hnN,hw,by rw [hd]⟩⟩
     · have e:(true==false)=false:=rfl
       simp only [e,Bool.false_and,cond_false]
       exact .inl ⟨_,rfl,skip k1 (fun _=>by rw [hn];exact ⟨n0,by omega,hw⟩),mu⟩
   · simp only [n0,decide_false,cond_false]
     exact .inl ⟨_,rfl,skip k1 (fun h0=>by rw [hn] at h0;exact absurd h0 n0),mu⟩
 have hcase:k=0∨k=1∨k=2:=by omega
 have w0:wi64 ((0:Int)+1)=0+1:=by decide
 have w1:wi64 ((1:Int)+1)=1+1:=by decide
 have t0:(0:Int)<2:=by decide
 have t1:(1:Int)<2:=by decide
 have t10:¬ (1:Int)=0:=by decide
 rcases hcase with rfl|rfl|rfl
 · simp only [LD.m,f115_l7,e1,t0,decide_true,cond_true,bx,ask_true,List.set_set,w0,List.length_singleton]
   have e0:(gx g.1 x.toNat dInstr).2.2.2.2.2.2.1=nxt g x.toNat 0:=by unfold nxt;rw [if_pos rfl];rfl
   rw [e0]
   exact go _ (by decide) rfl (by rw [← e0];exact nx.1)
 · simp only [LD.m,f115_l7,e1,t1,t10,decide_true,decide_false,cond_true,cond_false,bx,ask_true,List.set_set,w1,List.length_singleton]
   have e0:(gx g.1 x.toNat dInstr).2.2.2.2.2.2.2=nxt g x.toNat 1:=by unfold nxt;rw [if_neg t10];rfl
   rw [e0]
   exact go _ (by decide) rfl (by rw [← e0];exact nx.2)
 · simp only [LD.m,f115_l7,e1,Int.lt_irrefl,decide_false,cond_false]
   exact .inr ⟨_,rfl,.inr ⟨hk,rfl⟩⟩
theorem l115_5 (hG:FitG g D) {Z:List Int} {M:List TMark} {S:List TItv} (h:DI g [] M S):∃ e,loopAll (f115_l5.m (g,g,Z)) ([],M,S)=some e∧OrdOK g e:=by
 have hN:=hG.N
 obtain ⟨e,h1,h2⟩:=loopAll_of (step:=f115_l5.m (g,g,Z)) (t:=([],M,S)) (fun t=>DI g t.1 t.2.1 t.2.2) (fun t=>2 * (4096-List.countP (fun m:TMark=>m.1) t.2.1)+t.2.2.length) (fun e=>OrdOK g e) h (by
  have:=h.cnt;have:=List.countP_le_length (p:=fun m:TMark=>m.1) (l:=M);have:=h.len
  simp only [List.length_nil] at *;omega) (fun t hI=>by
  obtain ⟨O,M,S⟩:=t
  simp only at hI
  have hl:=hI.len
  have hc:=hI.cnt
  have hcl:=List.countP_le_length (p:=fun m:TMark=>m.1) (l:=M)
  simp only [LD.m,f115_l5,nt]
  by_cases hS:(0:Int)<(S.length:Int)
  · obtain ⟨i,hi⟩:∃ i,i+1=S.length:=⟨S.length-1,by omega⟩
    have hiS:i<S.length:=by omega
    have wi:wi64 ((S.length:Int)-1)=(i:Int):=by rw [wi64_of (by omega) (by omega)];omega
    simp only [hS,decide_true,cond_true,wi,inR hiS,ask_true,Int.toNat_natCast]
    obtain ⟨e,l1,l2⟩:=l115_7 (Z:=Z) hG hI hi
    rw [l1]
    simp only [Option.bind_some]
    rcases l2 with ⟨k,n,k0,k1,hs,hn,n0,nN,hw,rfl⟩|⟨hs,rfl⟩
    · have:=hI.push hi k0 k1 hs hn n0 nN hw
      refine .inl ⟨_,rfl,this,?_⟩
      have cp:=countP_upd (p:=fun m:TMark=>m.1) (d:=dMark) (a:=(true,(gx M n.toNat dMark).2)) (l:=M) (i:=n.toNat) (by omega)
      simp only [hw,Bool.false_eq_true,if_false,if_true] at cp
      have hc2:=this.cnt
      have hcl2:=List.countP_le_length (p:=fun m:TMark=>m.1) (l:=M.set n.toNat (true,(gx M n.toNat dMark).2))
      rw [List.length_set] at hcl2
      simp only [List.length_append,List.length_set,List.length_singleton] at hc2 ⊢
      omega
    · have sx:=(hI.st i hiS).1
      have hp:=hI.pop hi hs
      obtain ⟨x0,x1,x2⟩:=sx
      have e1:gx (S.set i ((gx S i dItv).1,2)) i dItv=((gx S i dItv).1,2):=by rw [gx_set hiS,if_pos rfl]
      have wl:wi64 (((S.set i ((gx S i dItv).1,2)).length:Int)-1)=(i:Int):=by rw [List.length_set];exact wi
      have b1:V.inRange (gx S i dItv).1 M.length=true:=inRI x0 x1
      have b2:(decide ((O.length+1) * 8≤70368744177664)&&decide (O.length+1<9223372036854775808))=true:=by simp;omega
      have b3:(decide ((0:Int)≤0)&&decide ((0:Int)≤(i:Int))&&decide ((i:Int)≤((S.set i ((gx S i dItv).1,2)).length:Int)))=true:=by simp;omega
      simp only [Sum.elim_inr,e1,wl,b1,List.length_singleton,b2,b3,ask_true,Int.toNat_natCast,Nat.sub_zero]
      refine .inl ⟨_,rfl,hp,?_⟩
      have cp:=countP_upd (p:=fun m:TMark=>m.1) (d:=dMark) (a:=((gx M (gx S i dItv).1.toNat dMark).1,true)) (l:=M) (i:=(gx S i dItv).1.toNat) (by omega)
      simp only at cp
      have hlen:((S.set i ((gx S i dItv).1,2)).take i).length=i:=by rw [List.length_take,List.length_set];omega
      simp only [hlen]
      omega
  · simp only [hS,decide_false,cond_false]
    have hS0:S=[]:=List.length_eq_zero_iff.1 (by omega)
    subst hS0
    have all:∀ x,seen M x→x∈O:=fun x hx=>by
      rcases hI.cov x hx with h|⟨q,q1,_⟩
      · exact h
      · exact absurd q1 (Nat.not_lt_zero _)
    simp only [List.length_nil] at hc
    exact .inr ⟨_,rfl,⟨by omega,fun x hx=>by obtain ⟨⟨a,b,_⟩,_⟩:=hI.ord x hx;exact ⟨a,by omega⟩,all 0 hI.z,fun x hx k hk h0=>all _ ((hI.ord x hx).2 k hk h0)⟩⟩)
 exact ⟨e,h1,h2⟩
theorem f58_eq (hG:FitG g D):∃ r,f58_m g=some r∧OrdOK g r:=by
 have hN:=hG.N;have hN1:=hG.N1
 unfold f58_m f58_c f115_m f115_c
 have hT:Int.toNat (nt g.1.length)=g.1.length:=by simp [nt]
 have b1:(decide ((0:Int)≤nt g.1.length)&&decide (nt g.1.length≤nt g.1.length)&&decide (8 * nt g.1.length≤70368744177664)&&decide (nt g.1.length<9223372036854775808))=true:=by have hnt:nt g.1.length=(g.1.length:Int):=rfl;simp;omega
 have b2:(decide ((0:Int)≤nt g.1.length)&&decide (nt g.1.length≤nt g.1.length)&&decide (2 * nt g.1.length≤70368744177664)&&decide (nt g.1.length<9223372036854775808))=true:=by have hnt:nt g.1.length=(g.1.length:Int):=rfl;simp;omega
 have b3:V.inRange 0 (List.length (List.replicate g.1.length ((false,false):TMark)))=true:=inRI (by decide) (by simp;omega)
 simp only [hT,b1,b2,b3,ask_true]
 simp only [nt]
 obtain ⟨R,hR⟩:∃ R,List.replicate g.1.length ((false,false):TMark)=R:=⟨_,rfl⟩
 have hRl:R.length=g.1.length:=by rw [← hR];simp
 have hRg:∀ j,j<R.length→gx R j dMark=(false,false):=fun j hj=>by
  rw [← hR] at hj ⊢
  simp only [List.length_replicate] at hj
  simp [gx,List.getD,hj]
 have hRc:List.countP (fun m:TMark=>m.1) R=0:=by rw [← hR];simp [List.countP_replicate]
 rw [hR]
 have h0:gx R 0 dMark=(false,false):=hRg 0 (by omega)
 have cp:=countP_upd (p:=fun m:TMark=>m.1) (d:=dMark) (a:=(true,(gx R 0 dMark).2)) (l:=R) (i:=0) (by omega)
 simp only [h0,Bool.false_eq_true,if_false,if_true,hRc] at cp
 have sz:seen (R.set 0 (true,(gx R 0 dMark).2)) 0:=⟨Int.le_refl _,by rw [List.length_set];omega,by show (gx _ 0 dMark).1=true;rw [gx_set (by omega),if_pos rfl]⟩
 have hD:DI g [] (R.set 0 (true,(gx R 0 dMark).2)) [(0,0)]:=by
  refine ⟨by rw [List.length_set];exact hRl,fun q hq=> ?_,fun x hx=>(by cases hx),fun x hx=> ?_,?_,fun j hj hj1=> ?_,sz⟩
  · have:q=0:=by simp at hq;exact hq
    subst this
    exact ⟨sz,Int.le_refl _,by decide,fun k k0 k1=>by have:k<0:=k1;omega⟩
  · rcases seen_back (by omega) hx with ⟨x0,x1,x2⟩|⟨e,_⟩
    · rw [hRg _ (by omega)] at x2;cases x2
    · exact .inr ⟨0,by simp,by rw [e];rfl⟩
  · rw [h0];simp only [List.length_nil,List.length_singleton];omega
  · rw [List.length_set] at hj
    rw [gx_set (by omega)] at hj1 ⊢
    split
    · rename_i e;rw [if_pos e] at hj1;cases hj1
    · rw [hRg j hj]
 obtain ⟨e1,p1,p2⟩:=l115_5 (Z:=List.replicate g.1.length (0:Int)) hG hD
 rw [p1]
 simp only [Option.bind_some]
 obtain ⟨r,r1,r2,r3⟩:=f156_eq (l:=e1) (by have:=p2.n;omega)
 rw [r1]
 simp only [Option.bind_some]
 have hr:OrdOK g r:=⟨by rw [r2];exact p2.n,fun x hx=>p2.rng x ((r3 x).1 hx),(r3 0).2 p2.z,fun x hx k hk h0=>(r3 _).2 (p2.cl x ((r3 x).1 hx) k hk h0)⟩
 obtain ⟨e3,q1,q2⟩:∃ e3,loopAll (f115_l18.m (((List.replicate g.1.length (0:Int)).length:Int),g,r)) (0,List.replicate g.1.length (0:Int))=some e3∧e3.length=g.1.length:=by
  refine loopAll_of (step:=f115_l18.m (((List.replicate g.1.length (0:Int)).length:Int),g,r)) (t:=(0,List.replicate g.1.length (0:Int))) (fun t=>0≤t.1∧t.2.length=g.1.length) (fun t=>4096-t.1.toNat) _ ⟨Int.le_refl _,by simp⟩ (by simp only;omega) fun t ⟨a1,a2⟩=> ?_
  obtain ⟨i,l⟩:=t
  simp only at a1 a2
  simp only [LD.m,f115_l18,List.length_replicate]
  by_cases h:i<(g.1.length:Int)
  · have b:V.inRange i l.length=true:=inRI a1 (by omega)
    simp only [h,decide_true,cond_true,b,ask_true]
    rw [wi64_of (n:=i+1) (by omega) (by omega)]
    exact .inl ⟨_,rfl,⟨by simp only;omega,by simp [a2]⟩,by simp only;omega⟩
  · simp only [h,decide_false,cond_false]
    exact .inr ⟨_,rfl,a2⟩
 rw [q1]
 simp only [Option.bind_some]
 obtain ⟨e4,s1,s2⟩:∃ e4,loopAll (f115_l23.m ((r.length:Int),g,r)) (0,e3)=some e4∧True:=by
  have hrn:=hr.n
  refine loopAll_of (step:=f115_l23.m ((r.length:Int),g,r)) (t:=(0,e3)) (fun t=>0≤t.1∧t.2.length=g.1.length) (fun t=>4096-t.1.toNat) _ ⟨Int.le_refl _,q2⟩ (by simp only;omega) fun t ⟨a1,a2⟩=> ?_
  obtain ⟨i,l⟩:=t
  simp only at a1 a2
  simp only [LD.m,f115_l23]
  by_cases h:i<(r.length:Int)
  · have b:V.inRange i r.length=true:=inRI a1 h
    obtain ⟨y0,y1⟩:=hr.rng (gx r i.toNat 0) (List.mem_of_getElem? (gx_lt (d:=(0:Int)) (by omega)))
    have b':V.inRange (gx r i.toNat (0:Int)) l.length=true:=inRI y0 (by omega)
    simp only [h,decide_true,cond_true,b,b',ask_true]
    rw [wi64_of (n:=i+1) (by omega) (by omega)]
    exact .inl ⟨_,rfl,⟨by simp only;omega,by simp [a2]⟩,by simp only;omega⟩
  · simp only [h,decide_false,cond_false]
    exact .inr ⟨_,rfl,trivial⟩
 rw [s1]
 exact ⟨r,rfl,hr⟩
end
end Go.U
end
section
set_option maxRecDepth 20000
namespace Go.U
open Go
structure VN (n:Nat) (v:List TCongr):Prop where
 n:v.length=n
 c:∀ j,j<v.length→CR (gx v j dCongr)
 l:∀ j,j<v.length→(gx v j dCongr).1=false
theorem VN.set {n:Nat} {v:List TCongr} {c:TCongr} {i:Nat} (h:VN n v) (hc:CR c) (h1:c.1=false) (hi:i<v.length):VN n (v.set i c):=by
 refine ⟨by simp [h.n],fun j hj=> ?_,fun j hj=> ?_⟩
 · rw [gx_set hi];split
   · exact hc
   · exact h.c j (by simpa using hj)
 · rw [gx_set hi];split
   · exact h1
   · exact h.l j (by simpa using hj)
structure StM (g:TGraph) (s:TMods):Prop where
 v:s.1=true→VN (scs g).length s.2.1
 w:s.1=true→VN (inps g).length s.2.2
 dd:s.1=false→s=deadM
section
variable {g:TGraph} {D:List Int} {a b c:TMods}
theorem StM.fit (h:StM g a) (h1:a.1=true):FitS g a:=⟨(h.v h1).n,(h.w h1).n,(h.v h1).c,(h.w h1).c⟩
theorem StM.dead:StM g deadM:=⟨fun h=>(by cases h),fun h=>(by cases h),fun _=>rfl⟩
theorem StM.mk' {v w:List TCongr} (hv:VN (scs g).length v) (hw:VN (inps g).length w):StM g (true,(v,w)):=⟨fun _=>hv,fun _=>hw,fun h=>(by cases h)⟩
theorem StM.small (hG:FitG g D) (h:StM g a):Small a:=small_all hG h.fit h.dd
theorem StM.pairM (hG:FitG g D) (ha:StM g a) (hb:StM g b) (h1:a.1=true) (h2:b.1=true):PairM a b:=by
 have v1:=ha.v h1;have v2:=hb.v h2;have w1:=ha.w h1;have w2:=hb.w h2
 have hs:=ha.small hG
 exact ⟨⟨hs.v,by rw [v1.n,v2.n],v1.c,fun i hi=>v2.c i (by rw [v2.n,← v1.n];exact hi)⟩,⟨hs.w,by rw [w1.n,w2.n],w1.c,fun i hi=>w2.c i (by rw [w2.n,← w1.n];exact hi)⟩⟩
theorem joinc_live {x y:TCongr} (hx:CR x) (hy:CR y) (h:x.1=false):(joinc x y).1=false:=(le_div hx (join_cr hx hy) (le_join hx hy).1 h).1
theorem VN.join {n:Nat} {v w:List TCongr} (hv:VN n v) (hw:VN n w):VN n (joinL v w):=by
 have e:∀ j,j<v.length→gx (joinL v w) j dCongr=joinc (gx v j dCongr) (gx w j dCongr):=fun j hj=>gx_map hj
 have hl:(joinL v w).length=v.length:=by unfold joinL;simp
 have h2:v.length=w.length:=by rw [hv.n,hw.n]
 refine ⟨by rw [hl,hv.n],fun j hj=> ?_,fun j hj=> ?_⟩
 · rw [e j (by omega)];exact join_cr (hv.c j (by omega)) (hw.c j (by omega))
 · rw [e j (by omega)];exact joinc_live (hv.c j (by omega)) (hw.c j (by omega)) (hv.l j (by omega))
theorem StM.join (ha:StM g a) (hb:StM g b):StM g (joinM a b):=by
 unfold joinM
 cases h1:a.1
 · exact hb
 · cases h2:b.1
   · exact ha
   · exact StM.mk' ((ha.v h1).join (hb.v h2)) ((ha.w h1).join (hb.w h2))
theorem refv_vn {v w:List TCongr} {r:Int} {c:TCongr} (hv:VN (scs g).length v) (h0:0≤r) (hc:CR c) (h:refv ((scs g).length:Int) v r c=some w):VN (scs g).length w:=by
 unfold refv at h
 by_cases hr:r<((scs g).length:Int)
 · rw [if_pos hr] at h
   have hn:=hv.n
   split at h
   · cases h
   · rename_i k
     injection h with h
     subst h
     exact hv.set (meet_eq (hv.c r.toNat (by omega)) hc).2.1 (by simpa using k) (by omega)
 · rw [if_neg hr] at h
   injection h with h
   subst h;exact hv
theorem step_st (hG:FitG g D) (ha:StM g a) (h1:a.1=true) {oa:List TCongr} (ho:Outs g a g.1.length oa) {j:Nat} (hj:j<g.1.length) (way:Int):StM g (stepM g a oa (at' g j) way):=by
 have hf:=ha.fit h1
 have good:=hG.good j hj
 obtain ⟨y,hy⟩:∃ y,at' g j=y:=⟨_,rfl⟩
 have use:∀ x∈f41_l y,0≤x∧x<g.2.2.1:=fun x hx=>by
   obtain ⟨a,b,_⟩:=use_cases hG (good.use x (by rw [hy];exact hx));exact ⟨a,b⟩
 have idx:=good.idx
 have out:=fun {x:Int} (h0:0≤x) (h1:x<g.2.2.1)=>out_cr hG hf ho h0 h1
 have vn:=ha.v h1;have wn:=ha.w h1
 have hvn:=vn.n;have hwn:=wn.n
 rw [hy] at idx ⊢
 have ea:a=(true,(a.2.1,a.2.2)):=by rw [← h1]
 unfold stepM
 split
 · split
   · exact .dead
   · exact ha
 · split
   · rename_i k2
     obtain ⟨i1,i2⟩:=idx.k13 k2
     obtain ⟨a1,a2⟩:=use y.2.2.1 (by simp [f41_l,k2])
     split
     · exact .dead
     · rename_i k
       rw [h1]
       exact StM.mk' (vn.set (typc_cr (out a1 a2) _) (by simpa using k) (by omega)) wn
   · split
     · rename_i k3
       obtain ⟨i1,i2⟩:=idx.k11 (.inr k3)
       obtain ⟨a1,a2⟩:=use y.2.1 (by simp [f41_l,k3])
       have tc:=typc_cr (out a1 a2) (gx (inps g) y.2.2.1.toNat dArray).2.1
       by_cases k:(typc (gx oa y.2.1.toNat dCongr) (gx (inps g) y.2.2.1.toNat dArray).2.1).1=true
       · rw [if_pos k];exact .dead
       · rw [if_neg k,h1]
         have hi:y.2.2.1.toNat<a.2.2.length:=by omega
         have k':=eq_false_of_ne_true k
         refine StM.mk' vn (wn.set ?_ ?_ hi)
         · split
           · exact join_cr (wn.c _ hi) tc
           · exact tc
         · split
           · exact joinc_live (wn.c _ hi) tc (wn.l _ hi)
           · exact k'
     · split
       · rename_i k4
         obtain ⟨a1,a2⟩:=use y.2.2.1 (by simp [f41_l,k4])
         obtain ⟨b1,b2⟩:=use y.2.2.2.1 (by simp [f41_l,k4])
         have t1:=testc_cr (op:=if way=1 then turnc y.2.2.2.2.1 else y.2.2.2.2.1) (out a1 a2) (out b1 b2)
         generalize testc (if way=1 then turnc y.2.2.2.2.1 else y.2.2.2.2.1) (gx oa y.2.2.1.toNat dCongr) (gx oa y.2.2.2.1.toNat dCongr)=pq at t1 ⊢
         split
         · exact .dead
         · unfold refs
           cases hw:refv ((scs g).length:Int) a.2.1 y.2.2.1 pq.1 with
           |none=>exact .dead
           |some w=>
             simp only [Option.bind_some]
             cases hw2:refv ((scs g).length:Int) w y.2.2.2.1 pq.2 with
             |none=>exact .dead
             |some u=>
              show StM g (a.1,(u,a.2.2))
              rw [h1]
              exact StM.mk' (refv_vn (refv_vn vn a1 t1.1 hw) b1 t1.2 hw2) wn
       · exact ha
noncomputable def stepF (g:TGraph) (s:TMods) (j:Nat) (way:Int):TMods:=(f16_m (g,s,(j:Int),way)).getD deadM
theorem stepF_ok (hG:FitG g D) (hn:NumsG g) (ha:StM g a) {j:Nat} (hj:j<g.1.length) (way:Int):f16_m (g,a,(j:Int),way)=some (stepF g a j way)∧StM g (stepF g a j way):=by
 obtain ⟨oa,ho⟩:=outs_ex hG hn ha.fit
 unfold stepF
 by_cases wa:wayBad g a j way
 · rw [f16_bad hG hj wa];exact ⟨rfl,.dead⟩
 · have la:a.1=true:=by
    cases h:a.1
    · exact absurd (.inl h) wa
    · rfl
   rw [f16_eq hG (ha.fit la) ho hj wa]
   exact ⟨rfl,step_st hG ha la (ho la) hj way⟩
theorem stepF_mono (hG:FitG g D) (hn:NumsG g) (ha:StM g a) (hc:StM g c) (hl:LeR a c) {j:Nat} (hj:j<g.1.length) (way:Int):LeR (stepF g a j way) (stepF g c j way):=by
 obtain ⟨r,r',t1,t2,t3,_⟩:=steps_le hG hn ha.fit hc.fit hl hj way
 unfold stepF
 rw [t1,t2];exact t3
theorem stepF_dead (hG:FitG g D) {j:Nat} (hj:j<g.1.length) (way:Int):stepF g deadM j way=deadM:=by
 unfold stepF
 rw [f16_bad hG hj (.inl rfl)];rfl
theorem LeL.trans {a b c:List TCongr} (h:LeL a b) (h':LeL b c):LeL a c:=by
 have e:=h.e;have e':=h'.e
 exact ⟨by omega,h.ca,fun i hi=>h'.cb i (by omega),fun i hi=>le_trans' (h.ca i hi) (h.cb i hi) (h'.cb i (by omega)) (h.le i hi) (h'.le i (by omega))⟩
theorem LeR.trans (h:LeR a b) (h':LeR b c):LeR a c:=fun h1=>by
 have x:=h h1
 have y:=h' x.live
 exact ⟨y.live,x.v.trans y.v,x.w.trans y.w⟩
theorem leqM_le (ha:StM g a) (hb:StM g b) (h:leqM a b=true):LeR a b:=fun h1=>by
 unfold leqM at h
 rw [h1] at h
 cases h2:b.1
 · rw [h2] at h;cases h
 · rw [h2] at h
   simp only [cond_true,Bool.and_eq_true] at h
   have v1:=ha.v h1;have v2:=hb.v h2;have w1:=ha.w h1;have w2:=hb.w h2
   exact ⟨h2,⟨by rw [v1.n,v2.n],v1.c,fun i hi=>v2.c i (by rw [v2.n,← v1.n];exact hi),fun i hi=>List.all_eq_true.1 h.1 i (List.mem_range.2 hi)⟩,⟨by rw [w1.n,w2.n],w1.c,fun i hi=>w2.c i (by rw [w2.n,← w1.n];exact hi),fun i hi=>List.all_eq_true.1 h.2 i (List.mem_range.2 hi)⟩⟩
theorem LeR.refl (ha:StM g a):LeR a a:=fun h=>LeM.refl (ha.fit h) h
theorem LeL.join {a b c:List TCongr} (h:LeL a c) (h':LeL b c):LeL (joinL a b) c:=by
 have e:=h.e;have e':=h'.e
 have hl:(joinL a b).length=a.length:=by unfold joinL;simp
 have ge:∀ j,j<a.length→gx (joinL a b) j dCongr=joinc (gx a j dCongr) (gx b j dCongr):=fun j hj=>gx_map hj
 refine ⟨by omega,fun i hi=> ?_,fun i hi=>h.cb i (by omega),fun i hi=> ?_⟩
 · rw [ge i (by omega)];exact join_cr (h.ca i (by omega)) (h'.ca i (by omega))
 · rw [ge i (by omega)];exact join_le (h.ca i (by omega)) (h'.ca i (by omega)) (h.cb i (by omega)) (h.le i (by omega)) (h'.le i (by omega))
theorem LeR.join (h:LeR a c) (h':LeR b c):LeR (joinM a b) c:=by
 unfold joinM
 cases h1:a.1
 · exact h'
 · cases h2:b.1
   · exact h
   · have x:=h h1;have y:=h' h2
     exact fun _=>⟨x.live,x.v.join y.v,x.w.join y.w⟩
end
def sumN (f:Nat→Nat):Nat→Nat
 |0=>0
 |n+1=>sumN f n+f n
theorem sumN_le {f h:Nat→Nat}:∀ {n:Nat},(∀ i,i<n→f i≤h i)→sumN f n≤sumN h n
 |0,_=>Nat.le_refl _
 |n+1,hl=>Nat.add_le_add (sumN_le fun i hi=>hl i (by omega)) (hl n (by omega))
theorem sumN_lt {f h:Nat→Nat} {i:Nat}:∀ {n:Nat},(∀ i,i<n→f i≤h i)→i<n→f i<h i→sumN f n<sumN h n
 |0,_,hi,_=>absurd hi (Nat.not_lt_zero _)
 |n+1,hl,hi,hs=>by
  by_cases e:i=n
  · subst e;exact Nat.add_lt_add_of_le_of_lt (sumN_le fun i hi=>hl i (by omega)) hs
  · exact Nat.add_lt_add_of_lt_of_le (sumN_lt (fun i hi=>hl i (by omega)) (by omega) hs) (hl n (by omega))
theorem sumN_const {f:Nat→Nat} {c:Nat}:∀ {n:Nat},(∀ i,i<n→f i≤c)→sumN f n≤n * c
 |0,_=>Nat.zero_le _
 |n+1,hl=>by rw [Nat.succ_mul];exact Nat.add_le_add (sumN_const fun i hi=>hl i (by omega)) (hl n (by omega))
theorem sumN_congr {f h:Nat→Nat} {n:Nat} (hl:∀ i,i<n→f i=h i):sumN f n=sumN h n:=Nat.le_antisymm (sumN_le fun i hi=>Nat.le_of_eq (hl i hi)) (sumN_le fun i hi=>Nat.le_of_eq (hl i hi).symm)
theorem sumN_upd {f h:Nat→Nat} {i:Nat}:∀ {n:Nat},i<n→(∀ j,j<n→j≠i→h j=f j)→sumN h n+f i=sumN f n+h i
 |0,hi,_=>absurd hi (Nat.not_lt_zero _)
 |n+1,hi,hl=>by
  by_cases e:i=n
  · subst e
    have:=sumN_congr (f:=f) (h:=h) (n:=i) fun j hj=>(hl j (by omega) (by omega)).symm
    simp only [sumN];omega
  · have:=sumN_upd (f:=f) (h:=h) (i:=i) (n:=n) (by omega) fun j hj hne=>hl j (by omega) hne
    have:=hl n (by omega) (fun e'=>e e'.symm)
    simp only [sumN];omega
def rkc (c:TCongr):Nat:=if c.1=true then 4294967297 else if c.2.1=0 then 4294967296 else c.2.1.toNat
theorem rkc_le {c d:TCongr} (hc:CR c) (hd:CR d) (h:leqr c d=true):rkc d≤rkc c∧(rkc d=rkc c→leqr d c=true):=by
 unfold rkc
 cases h1:c.1
 · obtain ⟨e1,d1,d2⟩:=le_div hc hd h h1
   obtain ⟨c0,c1,_⟩:=hc.bounds h1
   obtain ⟨d0,dl,_⟩:=hd.bounds e1
   simp only [e1,Bool.false_eq_true,if_false]
   by_cases z:d.2.1=0
   · have e:=const_eq hc hd h h1 z
     subst e
     exact ⟨Nat.le_refl _,fun _=>leqr_refl hc⟩
   · rw [if_neg z]
     by_cases zc:c.2.1=0
     · rw [if_pos zc];exact ⟨by omega,fun e=>by omega⟩
     · rw [if_neg zc]
       have hle:=Int.le_of_dvd (show 0<c.2.1 by omega) d1
       refine ⟨by omega,fun e=> ?_⟩
       have em:d.2.1=c.2.1:=by omega
       refine (leq_mem hd hc).2 fun z ⟨_,z1,z2,z3⟩=>⟨h1,z1,z2,?_⟩
       rw [em] at z3 d2
       exact (dvd_swap d2).2 z3
 · have hr:rkc d≤4294967297:=by
     unfold rkc
     split
     · exact Nat.le_refl _
     · rename_i k
       obtain ⟨d0,dl,_⟩:=hd.bounds (eq_false_of_ne_true k)
       split<;>omega
   unfold rkc at hr
   simp only [if_true]
   refine ⟨hr,fun e=> ?_⟩
   cases h2:d.1
   · obtain ⟨d0,dl,_⟩:=hd.bounds h2
     rw [h2] at e
     simp only [Bool.false_eq_true,if_false] at e
     split at e<;>omega
   · rw [hd.true h2];rfl
theorem rkc_max {c:TCongr} (hc:CR c):rkc c≤4294967297:=by
 unfold rkc
 split
 · exact Nat.le_refl _
 · rename_i k
   obtain ⟨d0,dl,_⟩:=hc.bounds (eq_false_of_ne_true k)
   split<;>omega
def rkL (l:List TCongr):Nat:=sumN (fun j=>rkc (gx l j dCongr)) l.length
theorem rkL_max {l:List TCongr} (h:∀ j,j<l.length→CR (gx l j dCongr)):rkL l≤l.length * 4294967297:=sumN_const fun j hj=>rkc_max (h j hj)
theorem rkL_le {a b:List TCongr} (h:LeL a b):rkL b≤rkL a:=by
 unfold rkL
 rw [← h.e]
 exact sumN_le fun j hj=>(rkc_le (h.ca j hj) (h.cb j hj) (h.le j hj)).1
theorem rkL_lt {a b:List TCongr} (h:LeL a b) (hn:¬ LeL b a):rkL b<rkL a:=by
 unfold rkL
 rw [← h.e]
 have:∃ j,j<a.length∧¬ leqr (gx b j dCongr) (gx a j dCongr)=true:=by
   refine Classical.byContradiction fun hx=>hn ⟨h.e.symm,fun i hi=>h.cb i (by rw [h.e];exact hi),fun i hi=>h.ca i (by rw [h.e];exact hi),fun i hi=> ?_⟩
   refine Classical.byContradiction fun hy=>hx ⟨i,by rw [h.e];exact hi,hy⟩
 obtain ⟨j,hj,hne⟩:=this
 refine sumN_lt (i:=j) (fun j hj=>(rkc_le (h.ca j hj) (h.cb j hj) (h.le j hj)).1) hj ?_
 obtain ⟨q1,q2⟩:=rkc_le (h.ca j hj) (h.cb j hj) (h.le j hj)
 rcases Nat.lt_or_ge (rkc (gx b j dCongr)) (rkc (gx a j dCongr)) with h1|h1
 · exact h1
 · exact absurd (q2 (by omega)) hne
def rk (s:TMods):Nat:=if s.1=true then rkL s.2.1+rkL s.2.2 else 347892351057
section
variable {g:TGraph} {D:List Int} {p s:TMods}
theorem rk_live (hG:FitG g D) (h:StM g s) (h1:s.1=true):rk s<347892351057:=by
 have v:=h.v h1;have w:=h.w h1
 have hS:=hG.S;have hA:=hG.A
 have r1:=rkL_max v.c;have r2:=rkL_max w.c
 rw [v.n] at r1;rw [w.n] at r2
 have m1:(scs g).length * 4294967297≤64 * 4294967297:=Nat.mul_le_mul_right _ hS
 have m2:(inps g).length * 4294967297≤16 * 4294967297:=Nat.mul_le_mul_right _ hA
 unfold rk
 rw [if_pos h1];omega
theorem rk_max (hG:FitG g D) (h:StM g s):rk s≤347892351057:=by
 cases h1:s.1
 · unfold rk;rw [h1];exact Nat.le_refl _
 · exact Nat.le_of_lt (rk_live hG h h1)
theorem rk_join (hG:FitG g D) (hp:StM g p) (hs:StM g s) (hn:¬ LeR s p):rk (joinM p s)<rk p:=by
 have ls:s.1=true:=by
   cases h:s.1
   · exact absurd (fun h'=>by rw [h] at h';cases h') hn
   · rfl
 cases h1:p.1
 · have e:joinM p s=s:=by unfold joinM;rw [h1];rfl
   rw [e]
   have:rk p=347892351057:=by unfold rk;rw [h1];rfl
   rw [this];exact rk_live hG hs ls
 · have e:joinM p s=(true,(joinL p.2.1 s.2.1,joinL p.2.2 s.2.2)):=by unfold joinM;rw [h1,ls];rfl
   obtain ⟨j1,j2,_⟩:=join_leM hG (hp.fit h1) (hs.fit ls) h1 ls
   rw [e] at j1 j2 ⊢
   have v1:=rkL_le j1.v;have w1:=rkL_le j1.w
   have rp:rk p=rkL p.2.1+rkL p.2.2:=by unfold rk;rw [if_pos h1]
   have rj:rk (true,(joinL p.2.1 s.2.1,joinL p.2.2 s.2.2))=rkL (joinL p.2.1 s.2.1)+rkL (joinL p.2.2 s.2.2):=by unfold rk;rw [if_pos rfl]
   rw [rp,rj]
   by_cases hv:LeL (joinL p.2.1 s.2.1) p.2.1
   · by_cases hw:LeL (joinL p.2.2 s.2.2) p.2.2
     · exact absurd (fun _=>⟨h1,j2.v.trans hv,j2.w.trans hw⟩) hn
     · have:=rkL_lt j1.w hw
       simp only at v1 this ⊢;omega
   · have:=rkL_lt j1.v hv
     simp only at w1 this ⊢;omega
end
end Go.U
end
section
set_option maxRecDepth 20000
namespace Go.U
open Go
abbrev delI {α:Type} (i:Int) (l:List (Int×α)):List (Int×α):=delT (k:=(.int .i64)) i l
theorem del_cons {α:Type} (i j:Int) (y:α) (l:List (Int×α)):delI i ((j,y)::l)=cond (decide (i=j)) l ((j,y)::delI i l):=rfl
theorem del_mem {α:Type} (i:Int) {p:Int×α}:∀ {l:List (Int×α)},p∈delI i l→p∈l
 |(j,y)::l,h=>by
  rw [del_cons] at h
  cases hd:decide (i=j)
  · rw [hd] at h
    rcases List.mem_cons.1 h with h|h
    · exact h ▸ List.mem_cons_self
    · exact List.mem_cons_of_mem _ (del_mem i h)
  · rw [hd] at h;exact List.mem_cons_of_mem _ h
theorem del_len {α:Type} (i:Int):∀ {l:List (Int×α)},hasI i l=true→(delI i l).length+1=l.length
 |(j,y)::l,h=>by
  rw [has_cons] at h
  rw [del_cons]
  cases hd:decide (i=j)
  · rw [hd] at h
    have:=del_len i (l:=l) h
    simp only [cond_false,List.length_cons];omega
  · rfl
theorem has_del {α:Type} {i j:Int} (hne:j≠i):∀ (l:List (Int×α)),hasI j (delI i l)=hasI j l
 |[]=>rfl
 |(k,y)::l=>by
  rw [del_cons,has_cons]
  by_cases h:i=k
  · subst h;simp [hne]
  · simp only [h,decide_false,cond_false,has_cons,has_del hne l]
theorem set_mem {α:Type} {i:Int} {x:α} {p:Int×α}:∀ {l:List (Int×α)},p∈setI i x l→p=(i,x)∨p∈l
 |[],h=>by rw [set_nil] at h;exact .inl (by simpa using h)
 |(j,y)::l,h=>by
  rw [set_cons] at h
  cases hd:decide (i=j)
  · rw [hd] at h
    rcases List.mem_cons.1 h with h|h
    · exact .inr (h ▸ List.mem_cons_self)
    · exact (set_mem h).imp id fun h=>List.mem_cons_of_mem _ h
  · rw [hd] at h
    rcases List.mem_cons.1 h with h|h
    · exact .inl h
    · exact .inr (List.mem_cons_of_mem _ h)
theorem set_len {α:Type} {i:Int} {x:α}:∀ (l:List (Int×α)),(setI i x l).length≤l.length+1
 |[]=>by rw [set_nil];exact Nat.le_refl _
 |(j,y)::l=>by
  rw [set_cons]
  cases decide (i=j)
  · have:=set_len (i:=i) (x:=x) l
    simp only [cond_false,List.length_cons];omega
  · simp only [cond_true,List.length_cons];omega
theorem has_true {i:Int} {l:List (Int×Bool)} (hl:∀ p∈l,p.2=true) (h:hasI i l=true):getI i false l=true:=by
 induction l with
 |nil=>cases h
 |cons p l ih=>
  obtain ⟨j,y⟩:=p
  rw [has_cons] at h
  rw [get_cons]
  cases hd:decide (i=j)
  · rw [hd] at h
    exact ih (fun p hp=>hl p (List.mem_cons_of_mem _ hp)) h
  · have:y=true:=hl (j,y) List.mem_cons_self
    rw [this];rfl
theorem init_ok {g:TGraph} {D:List Int} (hG:FitG g D):InitOK g:=by
 have hS:=hG.S;have hA:=hG.A
 exact ⟨by omega,by omega,fun i hi=>by obtain ⟨a,b⟩:=hG.I.s i hi;exact ⟨by omega,by omega⟩,fun i hi=>by obtain ⟨a,b⟩:=hG.I.a i hi;exact ⟨by omega,by omega⟩⟩
def initM (g:TGraph):TMods:=(true,(initS g,initA g))
theorem init_st {g:TGraph} {D:List Int} (hG:FitG g D):StM g (initM g):=by
 have nf_in:∀ {x:Int},InI x→(nf 0 x).1=false:=fun {x} h=>by unfold nf;rw [if_pos rfl,if_pos (show -2147483648≤x∧x≤2147483647 from h)]
 refine StM.mk' ⟨by unfold initS;simp,fun j hj=> ?_,fun j hj=> ?_⟩ ⟨by unfold initA;simp,fun j hj=> ?_,fun j hj=> ?_⟩
 · have hj':j<(scs g).length:=by unfold initS at hj;simpa using hj
   unfold initS;rw [gx_map hj'];exact nf_cr (Int.le_refl _)
 · have hj':j<(scs g).length:=by unfold initS at hj;simpa using hj
   unfold initS;rw [gx_map hj'];exact nf_in (hG.I.s j hj')
 · have hj':j<(inps g).length:=by unfold initA at hj;simpa using hj
   unfold initA;rw [gx_map hj'];exact nf_cr (Int.le_refl _)
 · have hj':j<(inps g).length:=by unfold initA at hj;simpa using hj
   unfold initA;rw [gx_map hj'];exact nf_in (hG.I.a j hj')
structure Ind (g:TGraph) (O:List Int) (l:List TMods):Prop where
 len:l.length=g.1.length
 st:∀ j,j<g.1.length→StM g (gx l j dMods)
 init:LeR (initM g) (gx l 0 dMods)
 step:∀ x∈O,∀ k:Int,k=0∨k=1→0≤nxt g x.toNat k→LeR (stepF g (gx l x.toNat dMods) x.toNat k) (gx l (nxt g x.toNat k).toNat dMods)
structure SI (g:TGraph) (O:List Int) (P:List TMods) (W:List (Int×Bool)) (pend:Int→Int→Prop):Prop where
 len:P.length=g.1.length
 st:∀ j,j<g.1.length→StM g (gx P j dMods)
 init:LeR (initM g) (gx P 0 dMods)
 step:∀ x∈O,∀ k:Int,k=0∨k=1→0≤nxt g x.toNat k→hasI x W=true∨pend x k∨LeR (stepF g (gx P x.toNat dMods) x.toNat k) (gx P (nxt g x.toNat k).toNat dMods)
 key:∀ p∈W,p.1∈O∧p.2=true
 least:∀ l,Ind g O l→∀ j,j<g.1.length→LeR (gx P j dMods) (gx l j dMods)
def RK (g:TGraph) (P:List TMods):Nat:=sumN (fun j=>rk (gx P j dMods)) g.1.length
def mu (g:TGraph) (P:List TMods) (W:List (Int×Bool)):Nat:=3 * RK g P+W.length
section
variable {g:TGraph} {D:List Int} {O:List Int} {P:List TMods} {W:List (Int×Bool)}
theorem nx_lt (hG:FitG g D) {j:Nat} (hj:j<g.1.length) {k:Int} (hk:k=0∨k=1):nxt g j k<(g.1.length:Int):=by
 have:=(hG.good j hj).nx
 rcases hk with rfl|rfl
 · exact this.1
 · exact this.2
theorem SI.edge (hG:FitG g D) (hn:NumsG g) (hO:OrdOK g O) {pend pend':Int→Int→Prop} (h:SI g O P W pend) {x k:Int} (hx:x∈O) (hk:k=0∨k=1) (h0:0≤nxt g x.toNat k) (hp:∀ y k',pend y k'→pend' y k'∨(y=x∧k'=k)):
   (leqM (stepF g (gx P x.toNat dMods) x.toNat k) (gx P (nxt g x.toNat k).toNat dMods)=true→SI g O P W pend')∧
   (leqM (stepF g (gx P x.toNat dMods) x.toNat k) (gx P (nxt g x.toNat k).toNat dMods)=false→SI g O (P.set (nxt g x.toNat k).toNat (joinM (gx P (nxt g x.toNat k).toNat dMods) (stepF g (gx P x.toNat dMods) x.toNat k))) (setI (nxt g x.toNat k) true W) pend'∧
     RK g (P.set (nxt g x.toNat k).toNat (joinM (gx P (nxt g x.toNat k).toNat dMods) (stepF g (gx P x.toNat dMods) x.toNat k)))<RK g P):=by
 obtain ⟨x0,x1⟩:=hO.rng x hx
 have hxN:x.toNat<g.1.length:=by omega
 have hnlt:=nx_lt hG hxN hk
 have hnO:=hO.cl x hx k hk h0
 have sx:=h.st x.toNat hxN
 obtain ⟨_,sr⟩:=stepF_ok hG hn sx hxN k
 generalize hnn:nxt g x.toNat k=n at *
 have hnN:n.toNat<g.1.length:=by omega
 have sp:=h.st n.toNat hnN
 generalize hr:stepF g (gx P x.toNat dMods) x.toNat k=r at *
 refine ⟨fun hle=>⟨h.len,h.st,h.init,fun y hy k' hk' h0'=> ?_,h.key,h.least⟩,fun hle=> ?_⟩
 · rcases h.step y hy k' hk' h0' with a|a|a
   · exact .inl a
   · rcases hp y k' a with b|⟨rfl,rfl⟩
     · exact .inr (.inl b)
     · exact .inr (.inr (by rw [hr,hnn];exact leqM_le sr sp hle))
   · exact .inr (.inr a)
 · have hnot:¬ LeR r (gx P n.toNat dMods):=fun hh=>by rw [hh.leq] at hle;cases hle
   have hPn:n.toNat<P.length:=by rw [h.len];exact hnN
   have sj:=sp.join sr
   obtain ⟨up1,up2,_⟩:=join_all hG sp.fit sr.fit
   have grow:∀ j,LeR (gx P j dMods) (gx (P.set n.toNat (joinM (gx P n.toNat dMods) r)) j dMods)∨g.1.length≤j:=fun j=>by
     by_cases hj:j<g.1.length
     · left
       rw [gx_set hPn]
       split
       · rename_i e;rw [← e];exact up1
       · exact LeR.refl (h.st j hj)
     · right;omega
   refine ⟨⟨by rw [List.length_set];exact h.len,fun j hj=> ?_,?_,fun y hy k' hk' h0'=> ?_,fun p hp'=> ?_,fun l hl j hj=> ?_⟩,?_⟩
   · rw [gx_set hPn];split
     · exact sj
     · exact h.st j hj
   · rcases grow 0 with a|a
     · exact h.init.trans a
     · have:=hG.N1;omega
   · obtain ⟨y0,y1⟩:=hO.rng y hy
     by_cases e:y=n
     · left;rw [has_set];simp [e]
     · have ey:gx (P.set n.toNat (joinM (gx P n.toNat dMods) r)) y.toNat dMods=gx P y.toNat dMods:=by
         rw [gx_set hPn,if_neg (by omega)]
       have hylt:=nx_lt hG (j:=y.toNat) (by omega) hk'
       rw [ey]
       rcases h.step y hy k' hk' h0' with a|a|a
       · left;rw [has_set,a];simp
       · rcases hp y k' a with b|⟨rfl,rfl⟩
         · exact .inr (.inl b)
         · refine .inr (.inr ?_)
           rw [hr,hnn,gx_set hPn,if_pos rfl];exact up2
       · refine .inr (.inr ?_)
         rcases grow (nxt g y.toNat k').toNat with b|b
         · exact a.trans b
         · omega
   · rcases set_mem hp' with rfl|hp'
     · exact ⟨hnO,rfl⟩
     · exact h.key p hp'
   · rw [gx_set hPn]
     split
     · rename_i e
       rw [← e]
       refine (h.least l hl _ hnN).join ?_
       have:=stepF_mono hG hn sx (hl.st x.toNat hxN) (h.least l hl x.toNat hxN) hxN k
       rw [hr] at this
       have hs:=hl.step x hx k hk (by rw [hnn];exact h0)
       rw [hnn] at hs
       exact this.trans hs
     · exact h.least l hl j hj
   · have hupd:=sumN_upd (f:=fun j=>rk (gx P j dMods)) (h:=fun j=>rk (gx (P.set n.toNat (joinM (gx P n.toNat dMods) r)) j dMods)) (i:=n.toNat) (n:=g.1.length) hnN (fun j hj hne=>by (try simp only);rw [gx_set hPn,if_neg (fun e=>hne e.symm)])
     try simp only at hupd
     rw [gx_set hPn,if_pos rfl] at hupd
     have:=rk_join hG sp sr hnot
     unfold RK;omega
theorem l21_12 (hG:FitG g D) (hn:NumsG g) (hO:OrdOK g O) {x:Int} (hx:x∈O) (h:SI g O P W (fun y _=>y=x)) {a b c:List Int} {n i:Int}:
   ∃ e,loopAll (f21_l12.m (a,x,b,n,i,(at' g x.toNat).2.2.2.2.2.2,g)) (0,P,W)=some e∧SI g O e.1 e.2 (fun _ _=>False)∧mu g e.1 e.2≤mu g P W:=by
 obtain ⟨x0,x1⟩:=hO.rng x hx
 have hxN:x.toNat<g.1.length:=by omega
 refine loopAll_of (step:=f21_l12.m (a,x,b,n,i,(at' g x.toNat).2.2.2.2.2.2,g)) (t:=(0,P,W)) (fun t=>0≤t.1∧t.1≤2∧SI g O t.2.1 t.2.2 (fun y k=>y=x∧t.1≤k∧k≤1)∧mu g t.2.1 t.2.2≤mu g P W) (fun t=>2-t.1.toNat) _ ⟨by show (0:Int)≤0;decide,by show (0:Int)≤2;decide,⟨h.len,h.st,h.init,fun y hy k hk h0=>by
     rcases h.step y hy k hk h0 with q|q|q
     · exact .inl q
     · exact .inr (.inl ⟨q,by simp only;omega,by omega⟩)
     · exact .inr (.inr q),h.key,h.least⟩,Nat.le_refl _⟩ (by simp) fun t ⟨t0,t2,hS,hm⟩=> ?_
 obtain ⟨k,Q,Y⟩:=t
 simp only at t0 t2 hS hm
 have hl:=hS.len
 have bx:V.inRange x Q.length=true:=inRI x0 (by omega)
 have hxx:((x.toNat:Nat):Int)=x:=by omega
 have w0:wi64 ((0:Int)+1)=1:=by decide
 have w1:wi64 ((1:Int)+1)=2:=by decide
 have z0:(0:Int)<2:=by decide
 have z1:(1:Int)<2:=by decide
 have z10:¬ (1:Int)=0:=by decide
 have go:∀ k:Int,k=0∨k=1→SI g O Q Y (fun y k'=>y=x∧k≤k'∧k'≤1)→∃ t':Int×List TMods×List (Int×Bool),(cond (decide (nxt g x.toNat k<(0:Int))) (some (.inl ((k+1),Q,Y))) ((f16_m (g,(gx Q x.toNat dMods),x,k)).bind fun r1=>
     ask (V.inRange (nxt g x.toNat k) (List.length Q)) ((f25_m (r1,(gx Q (Int.toNat (nxt g x.toNat k)) dMods))).bind fun r2=>
     cond (!r2)
     (ask (V.inRange (nxt g x.toNat k) (List.length Q)) ((f26_m ((gx Q (Int.toNat (nxt g x.toNat k)) dMods),r1)).bind fun r3=>
     ask (V.inRange (nxt g x.toNat k) (List.length Q)) (some (.inl ((k+1),(List.set Q (Int.toNat (nxt g x.toNat k)) r3),(setT (k:=(.int .i64)) (nxt g x.toNat k) true Y))))))
     (some (.inl ((k+1),Q,Y))))):Option ((Int×List TMods×List (Int×Bool)) ⊕ (List TMods×List (Int×Bool))))=some (.inl t')∧(0≤t'.1∧t'.1≤2∧SI g O t'.2.1 t'.2.2 (fun y k'=>y=x∧t'.1≤k'∧k'≤1)∧mu g t'.2.1 t'.2.2≤mu g P W)∧t'.1=k+1:=fun k hk hS=>by
   have hp:∀ y k',(y=x∧k≤k'∧k'≤1)→(y=x∧k+1≤k'∧k'≤1)∨(y=x∧k'=k):=fun y k' ⟨e,a,b⟩=>by
     by_cases e2:k'=k
     · exact .inr ⟨e,e2⟩
     · exact .inl ⟨e,by omega,b⟩
   by_cases h0:nxt g x.toNat k<0
   · rw [decide_eq_true h0]
     refine ⟨_,rfl,⟨by simp only;omega,by simp only;omega,⟨hS.len,hS.st,hS.init,fun y hy k' hk' h0'=> ?_,hS.key,hS.least⟩,hm⟩,rfl⟩
     rcases hS.step y hy k' hk' h0' with q|q|q
     · exact .inl q
     · rcases hp y k' q with q|⟨rfl,rfl⟩
       · exact .inr (.inl q)
       · omega
     · exact .inr (.inr q)
   · rw [decide_eq_false h0]
     have h0:0≤nxt g x.toNat k:=by omega
     have sx:=hS.st x.toNat hxN
     obtain ⟨f1,sr⟩:=stepF_ok hG hn sx hxN k
     rw [hxx] at f1
     have hlt:=nx_lt hG hxN hk
     have bn:V.inRange (nxt g x.toNat k) Q.length=true:=inRI h0 (by omega)
     have sp:=hS.st (nxt g x.toNat k).toNat (by omega)
     obtain ⟨ed1,ed2⟩:=hS.edge hG hn hO (pend':=fun y k'=>y=x∧k+1≤k'∧k'≤1) hx hk h0 hp
     simp only [cond_false]
     rw [f1]
     simp only [Option.bind_some,bn,ask_true]
     rw [f25_eq (fun h1 h2=>sr.pairM hG sp h1 h2)]
     simp only [Option.bind_some]
     cases hle:leqM (stepF g (gx Q x.toNat dMods) x.toNat k) (gx Q (nxt g x.toNat k).toNat dMods)
     · obtain ⟨s1,s2⟩:=ed2 hle
       simp only [Bool.not_false,cond_true]
       rw [f26_eq sr.dd (sp.small hG) (sr.small hG) (fun h1 h2=>sp.pairM hG sr h1 h2)]
       simp only [Option.bind_some]
       refine ⟨_,rfl,⟨by simp only;omega,by simp only;omega,s1,?_⟩,rfl⟩
       have:=set_len (i:=nxt g x.toNat k) (x:=true) Y
       show mu g (Q.set (nxt g x.toNat k).toNat (joinM (gx Q (nxt g x.toNat k).toNat dMods) (stepF g (gx Q x.toNat dMods) x.toNat k))) (setI (nxt g x.toNat k) true Y)≤mu g P W
       have hm:mu g Q Y≤mu g P W:=hm
       unfold mu at hm ⊢
       omega
     · simp only [Bool.not_true,cond_false]
       exact ⟨_,rfl,⟨by simp only;omega,by simp only;omega,ed1 hle,hm⟩,rfl⟩
 have hcase:k=0∨k=1∨k=2:=by omega
 rcases hcase with rfl|rfl|rfl
 · obtain ⟨t',q1,q2,q3⟩:=go 0 (.inl rfl) hS
   simp only [LD.m,f21_l12,z0,decide_true,cond_true,w0,bx,ask_true]
   exact .inl ⟨t',q1,q2,by (try simp only);omega⟩
 · obtain ⟨t',q1,q2,q3⟩:=go 1 (.inr rfl) hS
   simp only [LD.m,f21_l12,z1,z10,decide_true,decide_false,cond_true,cond_false,w1,bx,ask_true]
   exact .inl ⟨t',q1,q2,by (try simp only);omega⟩
 · simp only [LD.m,f21_l12,Int.lt_irrefl,decide_false,cond_false]
   refine .inr ⟨_,rfl,⟨hS.len,hS.st,hS.init,fun y hy k' hk' h0'=> ?_,hS.key,hS.least⟩,hm⟩
   rcases hS.step y hy k' hk' h0' with q|q|q
   · exact .inl q
   · have:=q.2;omega
   · exact .inr (.inr q)
theorem l21_7 (hG:FitG g D) (hn:NumsG g) (hO:OrdOK g O) (h:SI g O P W (fun _ _=>False)):
   ∃ e,loopAll (f21_l7.m (O,O,(O.length:Int),g)) (0,P,W)=some e∧SI g O e.1 e.2 (fun _ _=>False)∧(mu g e.1 e.2<mu g P W∨∀ q,q<O.length→hasI (gx O q (0:Int)) W=false):=by
 have hON:=hO.n
 refine loopAll_of (step:=f21_l7.m (O,O,(O.length:Int),g)) (t:=(0,P,W)) (fun t=>∃ i:Nat,i≤O.length∧t.1=(i:Int)∧SI g O t.2.1 t.2.2 (fun _ _=>False)∧(mu g t.2.1 t.2.2<mu g P W∨(t.2=(P,W)∧∀ q,q<i→hasI (gx O q (0:Int)) W=false))) (fun t=>O.length-t.1.toNat) _
   ⟨0,Nat.zero_le _,rfl,h,.inr ⟨rfl,fun q hq=>absurd hq (Nat.not_lt_zero _)⟩⟩ (by simp only;omega) fun t ⟨i,hi,ht,hS,hm⟩=> ?_
 obtain ⟨ti,Q,Y⟩:=t
 simp only at ht hS hm
 subst ht
 simp only [LD.m,f21_l7]
 by_cases hlt:i<O.length
 · have h':(i:Int)<(O.length:Int):=by omega
   have hx:gx O i (0:Int)∈O:=List.mem_of_getElem? (gx_lt hlt)
   obtain ⟨x0,x1⟩:=hO.rng _ hx
   simp only [h',decide_true,cond_true,inR hlt,ask_true,Int.toNat_natCast]
   rw [wi64_of (n:=(i:Int)+1) (by omega) (by omega)]
   have key:=fun p hp=>(hS.key p hp).2
   cases hw:hasT (k:=(.int .i64)) (gx O i (0:Int)) Y
   · simp only [cond_false]
     refine .inl ⟨_,rfl,⟨i+1,hlt,by simp only;omega,hS,?_⟩,by simp only;omega⟩
     rcases hm with hm|⟨e,hm⟩
     · exact .inl hm
     · refine .inr ⟨e,fun q hq=> ?_⟩
       by_cases e2:q=i
       · subst e2
         injection e with _ e
         rw [← e];exact hw
       · exact hm q (by omega)
   · have hg:getT (k:=(.int .i64)) (gx O i (0:Int)) false Y=true:=has_true key hw
     simp only [hg,Bool.not_true,cond_true,cond_false]
     have bx:V.inRange (gx O i (0:Int)) (List.length g.1)=true:=inRI x0 x1
     simp only [bx,ask_true]
     have hD:SI g O Q (delT (k:=(.int .i64)) (gx O i (0:Int)) Y) (fun y _=>y=gx O i (0:Int)):=by
       refine ⟨hS.len,hS.st,hS.init,fun y hy k hk h0=> ?_,fun p hp=>hS.key p (del_mem _ hp),hS.least⟩
       by_cases e:y=gx O i (0:Int)
       · exact .inr (.inl e)
       · rcases hS.step y hy k hk h0 with q|q|q
         · left
           have:=has_del (i:=gx O i (0:Int)) e Y
           exact this.trans q
         · exact q.elim
         · exact .inr (.inr q)
     obtain ⟨e,e1,e2,e3⟩:=l21_12 (a:=O) (b:=O) (c:=O) (n:=(O.length:Int)) (i:=(i:Int)) hG hn hO hx hD
     have e1':loopAll (f21_l12.m (O,(gx O i (0:Int)),O,(O.length:Int),(i:Int),(gx g.1 (Int.toNat (gx O i (0:Int))) dInstr).2.2.2.2.2.2,g)) (0,Q,(delT (k:=(.int .i64)) (gx O i (0:Int)) Y))=some e:=e1
     rw [e1']
     refine .inl ⟨_,rfl,⟨i+1,hlt,by simp only;omega,e2,.inl ?_⟩,by simp only;omega⟩
     have hd:(delI (gx O i (0:Int)) Y).length+1=Y.length:=del_len _ hw
     have e3:mu g e.1 e.2≤mu g Q (delI (gx O i (0:Int)) Y):=e3
     show mu g e.1 e.2<mu g P W
     have hmu:mu g Q Y≤mu g P W:=by
       rcases hm with hm|⟨e,_⟩
       · exact Nat.le_of_lt hm
       · injection e with a b;rw [a,b];exact Nat.le_refl _
     unfold mu at e3 hmu ⊢
     omega
 · have hEq:i=O.length:=by omega
   subst hEq
   simp only [Int.lt_irrefl,decide_false,cond_false]
   refine .inr ⟨_,rfl,hS,?_⟩
   rcases hm with hm|⟨_,hm⟩
   · exact .inl hm
   · exact .inr hm
theorem RK_max (hG:FitG g D) (h:SI g O P W (fun _ _=>False)):RK g P≤1424967069929472:=by
 have h1:=sumN_const (f:=fun j=>rk (gx P j dMods)) (n:=g.1.length) fun j hj=>rk_max hG (h.st j hj)
 have hN:=hG.N
 generalize hc:(347892351057:Nat)=c at h1
 have h2:=Nat.mul_le_mul_right c hN
 have h3:=Nat.le_trans h1 h2
 rw [← hc] at h3
 exact h3
theorem f21_eq (hG:FitG g D) (hn:NumsG g):∃ P O,f21_m g=some P∧f58_m g=some O∧OrdOK g O∧Ind g O P∧∀ l,Ind g O l→∀ j,j<g.1.length→LeR (gx P j dMods) (gx l j dMods):=by
 have hN:=hG.N;have hN1:=hG.N1
 obtain ⟨O,o1,hO⟩:=f58_eq hG
 unfold f21_m f21_c
 have hT:Int.toNat (nt g.1.length)=g.1.length:=by simp [nt]
 have b1:(decide ((0:Int)≤nt g.1.length)&&decide (nt g.1.length≤nt g.1.length)&&decide (56 * nt g.1.length≤70368744177664)&&decide (nt g.1.length<9223372036854775808))=true:=by have hnt:nt g.1.length=(g.1.length:Int):=rfl;simp;omega
 have b3:V.inRange 0 (List.length (List.replicate g.1.length ((false,([],[])):TMods)))=true:=inRI (by decide) (by simp;omega)
 simp only [hT,b1,ask_true]
 rw [f32_eq (init_ok hG)]
 simp only [Option.bind_some,b3,ask_true]
 rw [o1]
 simp only [Option.bind_some]
 obtain ⟨R,hR⟩:∃ R,List.replicate g.1.length ((false,([],[])):TMods)=R:=⟨_,rfl⟩
 have hRl:R.length=g.1.length:=by rw [← hR];simp
 have hRg:∀ j,j<g.1.length→gx R j dMods=deadM:=fun j hj=>by rw [← hR];simp [gx,List.getD,hj,deadM]
 rw [hR]
 have st0:=init_st hG
 have hg:∀ j,j<g.1.length→gx (R.set 0 (initM g)) j dMods=if 0=j then initM g else deadM:=fun j hj=>by
   rw [gx_set (by omega)];split
   · rfl
   · exact hRg j hj
 have hS:SI g O (R.set 0 (initM g)) [(0,true)] (fun _ _=>False):=by
   refine ⟨by rw [List.length_set];exact hRl,fun j hj=> ?_,by rw [hg 0 hN1,if_pos rfl];exact LeR.refl st0,fun x hx k hk h0=> ?_,fun p hp=> ?_,fun l hl j hj=> ?_⟩
   · rw [hg j hj];split
     · exact st0
     · exact .dead
   · obtain ⟨x0,x1⟩:=hO.rng x hx
     by_cases e:x=0
     · left;subst e;rfl
     · refine .inr (.inr ?_)
       rw [hg x.toNat (by omega),if_neg (by omega),stepF_dead hG (by omega)]
       exact .dead
   · have:p=(0,true):=by simpa using hp
     subst this;exact ⟨hO.z,rfl⟩
   · rw [hg j hj];split
     · rename_i e;subst e;exact hl.init
     · exact .dead
 obtain ⟨e,q1,q2⟩:=loopAll_of (step:=f21_l5.m (O,g)) (t:=(R.set 0 (initM g),[((0:Int),true)])) (fun t=>SI g O t.1 t.2 (fun _ _=>False)) (fun t=>mu g t.1 t.2) (fun e=>SI g O e [] (fun _ _=>False)) hS (by
   have:=RK_max hG hS
   simp only [mu,List.length_singleton];omega) (fun t hI=>by
   obtain ⟨Q,Y⟩:=t
   simp only at hI
   simp only [LD.m,f21_l5,nt]
   by_cases hv:(0:Int)<(Y.length:Int)
   · simp only [hv,decide_true,cond_true]
     obtain ⟨e,e1,e2,e3⟩:=l21_7 hG hn hO hI
     rw [e1]
     have hlt:mu g e.1 e.2<mu g Q Y:=by
       rcases e3 with e3|e3
       · exact e3
       · exfalso
         cases Y with
         |nil=>simp at hv
         |cons p Y=>
          obtain ⟨k1,k2⟩:=hI.key p List.mem_cons_self
          obtain ⟨q,q1,q2⟩:=(mem_gx (0:Int)).1 k1
          have:=e3 q q1
          obtain ⟨a,b⟩:=p
          simp only at q2
          rw [q2,has_cons] at this
          simp at this
     exact .inl ⟨_,rfl,e2,hlt⟩
   · simp only [hv,decide_false,cond_false]
     have:Y=[]:=List.length_eq_zero_iff.1 (by omega)
     subst this
     exact .inr ⟨_,rfl,hI⟩)
 have q1':loopAll (f21_l5.m (O,g)) (List.set R 0 (true,(initS g,initA g)),setT (k:=(.int .i64)) (0:Int) true ([]:List (Int×Bool)))=some e:=q1
 rw [q1']
 refine ⟨e,O,rfl,rfl,hO,⟨q2.len,q2.st,q2.init,fun x hx k hk h0=> ?_⟩,q2.least⟩
 rcases q2.step x hx k hk h0 with q|q|q
 · cases q
 · exact q.elim
 · exact q
end
end Go.U
end
section
set_option maxRecDepth 20000
namespace Go.U
open Go
section
variable {g:TGraph} {D:List Int} {O:List Int} {l:List TMods}
noncomputable def wayB (g:TGraph) (l:List TMods) (x:Int) (k:Int):Bool:=cond (decide (0≤nxt g x.toNat k)) (leqM (stepF g (gx l x.toNat dMods) x.toNat k) (gx l (nxt g x.toNat k).toNat dMods)) true
noncomputable def waysB (g:TGraph) (l:List TMods) (x:Int):Bool:=wayB g l x 0&&wayB g l x 1
theorem l23_7 (hG:FitG g D) (hn:NumsG g) (hlen:l.length=g.1.length) (hst:∀ j,j<l.length→StM g (gx l j dMods)) {x:Int} (x0:0≤x) (x1:x<(g.1.length:Int)) {a:List Int} {n i:Int}:
  loopAll (f23_l7.m (l,x,a,n,i,(at' g x.toNat).2.2.2.2.2.2,g)) 0=some (cond (waysB g l x) (.inr ()) (.inl ())):=by
 have hxN:x.toNat<g.1.length:=by omega
 have hxx:((x.toNat:Nat):Int)=x:=by omega
 have z0:(0:Int)<2:=by decide
 have z1:(1:Int)<2:=by decide
 have z10:¬ (1:Int)=0:=by decide
 have bx:V.inRange x l.length=true:=inRI x0 (by omega)
 have sx:=hst x.toNat (by omega)
 have go:∀ k:Int,k=0∨k=1→∀ (y:Int ⊕ (Unit ⊕ Unit)),(cond (decide ((0:Int)≤nxt g x.toNat k)) ((f16_m (g,(gx l x.toNat dMods),x,k)).bind fun r1=>
    ask (V.inRange (nxt g x.toNat k) (List.length l)) ((f25_m (r1,(gx l (Int.toNat (nxt g x.toNat k)) dMods))).bind fun r2=>cond (!r2) (some (.inr (.inl ()))) (some y))) (some y):Option (Int ⊕ (Unit ⊕ Unit)))=some (cond (wayB g l x k) y (.inr (.inl ()))):=fun k hk y=>by
  unfold wayB
  by_cases h0:0≤nxt g x.toNat k
  · have hlt:=nx_lt hG hxN hk
    obtain ⟨f1,sr⟩:=stepF_ok hG hn sx hxN k
    rw [hxx] at f1
    have bn:V.inRange (nxt g x.toNat k) l.length=true:=inRI h0 (by omega)
    simp only [h0,decide_true,cond_true]
    rw [f1]
    simp only [Option.bind_some,bn,ask_true]
    rw [f25_eq (fun h1 h2=>sr.pairM hG (hst (nxt g x.toNat k).toNat (by omega)) h1 h2)]
    simp only [Option.bind_some]
    cases leqM (stepF g (gx l x.toNat dMods) x.toNat k) (gx l (nxt g x.toNat k).toNat dMods)<;>rfl
  · simp only [h0,decide_false,cond_false,cond_true]
 have:=loop_all (n:=2) (by decide) (p:=fun k=>wayB g l x (k:Int)) (step:=f23_l7.m (l,x,a,n,i,(at' g x.toNat).2.2.2.2.2.2,g)) (fun k hk=>by
  have hcase:k=0∨k=1:=by omega
  rcases hcase with rfl|rfl
  · have:=go 0 (.inl rfl) (.inl (wi64 ((0:Int)+1)))
    simp only [LD.m,f23_l7,Int.natCast_zero,z0,decide_true,cond_true,bx,ask_true]
    exact this
  · have:=go 1 (.inr rfl) (.inl (wi64 ((1:Int)+1)))
    have e1:((1:Nat):Int)=1:=rfl
    simp only [LD.m,f23_l7,e1,z1,z10,decide_true,decide_false,cond_true,cond_false,bx,ask_true]
    exact this) (by
  have e2:((2:Nat):Int)=2:=rfl
  simp only [LD.m,f23_l7,e2,Int.lt_irrefl,decide_false,cond_false])
 rw [this]
 have e:((List.range 2).all fun k=>wayB g l x (k:Int))=waysB g l x:=by
  unfold waysB
  have:List.range 2=[0,1]:=rfl
  rw [this]
  simp
 rw [e]
theorem f23_eq (hG:FitG g D) (hn:NumsG g) (ho:f58_m g=some O) (hO:OrdOK g O) (hst:∀ j,j<l.length→StM g (gx l j dMods)):∃ b,f23_m (g,l)=some b∧(b=true↔Ind g O l):=by
 have hN1:=hG.N1;have hON:=hO.n
 unfold f23_m f23_c
 by_cases hlen:l.length=g.1.length
 · have hd:decide (nt l.length=nt g.1.length)=true:=decide_eq_true (by rw [hlen])
   have b0:V.inRange 0 l.length=true:=inRI (by decide) (by omega)
   simp only [hd,Bool.not_true,cond_false]
   rw [f32_eq (init_ok hG)]
   simp only [Option.bind_some,b0,ask_true]
   have si:=init_st hG
   have s0:=hst 0 (by omega)
   rw [show ((true,(initS g,initA g)):TMods)=initM g from rfl,f25_eq (fun h1 h2=>si.pairM hG s0 h1 h2)]
   simp only [Option.bind_some]
   cases hi:leqM (initM g) (gx l 0 dMods)
   · refine ⟨false,rfl,fun h=>(by cases h),fun h=> ?_⟩
     rw [h.init.leq] at hi;cases hi
   · simp only [Bool.not_true,cond_false]
     rw [ho]
     simp only [Option.bind_some]
     have:=loop_all (n:=O.length) (by omega) (p:=fun i=>waysB g l (gx O i (0:Int))) (step:=f23_l4.m (l,O,nt O.length,g)) (fun i hi=>by
       have h':(i:Int)<(O.length:Int):=by omega
       obtain ⟨x0,x1⟩:=hO.rng _ (List.mem_of_getElem? (gx_lt (d:=(0:Int)) hi))
       have bx:V.inRange (gx O i (0:Int)) g.1.length=true:=inRI x0 x1
       simp only [LD.m,f23_l4,nt,h',decide_true,cond_true,inR hi,ask_true,Int.toNat_natCast,bx]
       have e:=l23_7 (a:=O) (n:=(O.length:Int)) (i:=(i:Int)) hG hn hlen hst x0 x1
       have e':loopAll (f23_l7.m (l,(gx O i (0:Int)),O,(O.length:Int),(i:Int),(gx g.1 (Int.toNat (gx O i (0:Int))) dInstr).2.2.2.2.2.2,g)) 0=some (cond (waysB g l (gx O i (0:Int))) (.inr ()) (.inl ())):=e
       rw [e']
       simp only [Option.bind_some]
       cases waysB g l (gx O i (0:Int))<;>rfl) (by
       simp only [LD.m,f23_l4,nt,Int.lt_irrefl,decide_false,cond_false])
     rw [this]
     simp only [Option.bind_some]
     have key:((List.range O.length).all fun i=>waysB g l (gx O i (0:Int)))=true↔Ind g O l:=by
       rw [List.all_eq_true]
       constructor
       · intro h
         refine ⟨hlen,fun j hj=>hst j (by omega),leqM_le si s0 hi,fun x hx k hk h0=> ?_⟩
         obtain ⟨q,q1,q2⟩:=(mem_gx (0:Int)).1 hx
         obtain ⟨x0,x1⟩:=hO.rng x hx
         have hw:=h q (List.mem_range.2 q1)
         rw [q2] at hw
         unfold waysB at hw
         rw [Bool.and_eq_true] at hw
         have hlt:=nx_lt hG (j:=x.toNat) (by omega) hk
         have hw:wayB g l x k=true:=by rcases hk with rfl|rfl;exact hw.1;exact hw.2
         unfold wayB at hw
         rw [decide_eq_true h0] at hw
         exact leqM_le (stepF_ok hG hn (hst x.toNat (by omega)) (by omega) k).2 (hst _ (by omega)) hw
       · intro h i hi
         have hx:gx O i (0:Int)∈O:=List.mem_of_getElem? (gx_lt (List.mem_range.1 hi))
         have one:∀ k:Int,k=0∨k=1→wayB g l (gx O i (0:Int)) k=true:=fun k hk=>by
          unfold wayB
          by_cases h0:0≤nxt g (gx O i (0:Int)).toNat k
          · rw [decide_eq_true h0];exact (h.step _ hx k hk h0).leq
          · rw [decide_eq_false h0];rfl
         unfold waysB
         rw [one 0 (.inl rfl),one 1 (.inr rfl)];rfl
     cases hb:(List.range O.length).all fun i=>waysB g l (gx O i (0:Int))
     · exact ⟨false,rfl,fun h=>(by cases h),fun h=>by rw [key.2 h] at hb;cases hb⟩
     · exact ⟨true,rfl,fun _=>key.1 hb,fun _=>rfl⟩
 · have hd:decide (nt l.length=nt g.1.length)=false:=decide_eq_false fun e=>hlen (by simp only [nt] at e;omega)
   simp only [hd,Bool.not_false,cond_true]
   exact ⟨false,rfl,fun h=>(by cases h),fun h=>absurd h.len hlen⟩
theorem f23v1_no (hG:FitG g D) (hlen:l.length=g.1.length) (h0:gx l 0 dMods=deadM):f23v1_m (g,l)=some false:=by
 have hN1:=hG.N1
 unfold f23v1_m f23v1_c
 have hd:decide (nt l.length=nt g.1.length)=true:=decide_eq_true (by rw [hlen])
 have b0:V.inRange 0 l.length=true:=inRI (by decide) (by omega)
 simp only [hd,Bool.not_true,cond_false]
 rw [f32_eq (init_ok hG)]
 simp only [Option.bind_some,b0,ask_true]
 rw [h0,f25_eq (fun _ h2=>by cases h2)]
 rfl
theorem st_of (h:LensM (gx l 0 dMods)∨True) {s:TMods} (hL:LensM s) (hf:fitM g s=true):StM g s:=by
 have he:=f11_ex (g:=g) hL
 obtain ⟨r,r1,r2⟩:=f11_eq (g:=g) hL
 rw [he] at r1
 injection r1 with r1
 have hF:=r2 (r1 ▸ hf)
 rw [hf] at he
 have good:s.1=true→goods s.2.1=true∧goods s.2.2=true:=fun h1=>by
  unfold fitM at hf
  rw [h1] at hf
  simp only [cond_true,Bool.and_eq_true] at hf
  exact hf.2.2
 have live:∀ {v:List TCongr},goods v=true→∀ j,j<v.length→(gx v j dCongr).1=false:=fun hv j hj=>by
  have:=List.all_eq_true.1 hv j (List.mem_range.2 hj)
  unfold goodc at this
  rw [Bool.and_eq_true] at this
  simpa using this.1
 exact ⟨fun h1=>⟨(hF h1).sl,(hF h1).sc,live (good h1).1⟩,fun h1=>⟨(hF h1).il,(hF h1).ic,live (good h1).2⟩,f11_dead he⟩
theorem fit_of (hG:FitG g D) {s:TMods} (h:StM g s):LensM s∧fitM g s=true:=by
 have hsm:=h.small hG
 cases h1:s.1
 · rw [h.dd h1]
   exact ⟨⟨Nat.zero_le _,Nat.zero_le _,fun c hc=>(by cases hc),fun c hc=>(by cases hc)⟩,rfl⟩
 · have v:=h.v h1;have w:=h.w h1
   have ci:∀ {n:Nat} {v:List TCongr},VN n v→∀ c∈v,CI c:=fun hv c hc=>by
    obtain ⟨j,hj,rfl⟩:=(mem_gx dCongr).1 hc
    obtain ⟨a0,a1,a2,a3,_⟩:=(hv.c j hj).bounds (hv.l j hj)
    exact ⟨⟨by omega,by omega⟩,by omega,by omega⟩
   have gd:∀ {n:Nat} {v:List TCongr},VN n v→goods v=true:=fun hv=>List.all_eq_true.2 fun j hj=>by
    have hj:=List.mem_range.1 hj
    obtain ⟨a0,_,_,_,a4,_⟩:=(hv.c j hj).bounds (hv.l j hj)
    unfold goodc fitc
    rw [hv.l j hj,a4,eqb_eq,decide_eq_true a0]
    simp
   refine ⟨⟨by have:=hsm.v;omega,by have:=hsm.w;omega,ci v,ci w⟩,?_⟩
   unfold fitM
   rw [h1,gd v,gd w,decide_eq_true (show (s.2.1.length:Int)=(scs g).length by rw [v.n]),decide_eq_true (show (s.2.2.length:Int)=(inps g).length by rw [w.n])]
   rfl
theorem f20_eq (hn:l.length≤9223372036854775807) (hL:∀ j,j<l.length→LensM (gx l j dMods)):f20_m (g,l)=some ((List.range l.length).all fun i=>fitM g (gx l i dMods)):=by
 unfold f20_m f20_c
 rw [loop_all (n:=l.length) hn (p:=fun i=>fitM g (gx l i dMods)) (fun i hi=>by
  have h':(i:Int)<(l.length:Int):=by omega
  simp only [LD.m,f20_l2,nt,h',decide_true,cond_true,inR hi,ask_true,Int.toNat_natCast]
  rw [f11_ex (hL i hi)]
  simp only [Option.bind_some]
  cases fitM g (gx l i dMods)<;>rfl) (by
  simp only [LD.m,f20_l2,nt,Int.lt_irrefl,decide_false,cond_false])]
 simp only [Option.bind_some]
 cases (List.range l.length).all fun i=>fitM g (gx l i dMods)<;>rfl
theorem cpyM_len {a b:List TMods} (h:a.length≤b.length):(cpyL 0 (min a.length b.length) a b).length=b.length:=by
 simp [cpyL];omega
theorem l6_15 (hG:FitG g D) {P:List TMods} (hP:Ind g O P):loopAll (f6_l15.m (P,g)) 0=some (.inr ()):=by
 have hN:=hG.N;have hN1:=hG.N1
 have hlen:=hP.len
 have hlive:(gx P 0 dMods).1=true:=(hP.init rfl).live
 have hz:(0:Int)<(P.length:Int):=by omega
 have b0:V.inRange 0 P.length=true:=inRI (by decide) (by omega)
 have hT:Int.toNat (nt P.length)=P.length:=by simp [nt]
 have b1:(decide ((0:Int)≤nt P.length)&&decide (nt P.length≤nt P.length)&&decide (56 * nt P.length≤70368744177664)&&decide (nt P.length<9223372036854775808))=true:=by have hnt:nt P.length=(P.length:Int):=rfl;simp;omega
 have hc:(cpyL 0 (min P.length (List.replicate P.length ((false,([],[])):TMods)).length) P (List.replicate P.length ((false,([],[])):TMods))).length=P.length:=by
  rw [cpyM_len (by simp)];simp
 have b2:V.inRange 0 (List.length (cpyL 0 (min P.length (List.replicate P.length ((false,([],[])):TMods)).length) P (List.replicate P.length ((false,([],[])):TMods))))=true:=by rw [hc];exact b0
 have hno:=f23v1_no (g:=g) (l:=List.set (cpyL 0 (min P.length (List.replicate P.length ((false,([],[])):TMods)).length) P (List.replicate P.length ((false,([],[])):TMods))) 0 (false,([],[]))) hG (by rw [List.length_set,hc,hlen]) (by rw [gx_set (by rw [hc];omega),if_pos rfl];rfl)
 refine loop_run (n:=0) (s:=fun _=>(0:Int)) _ (by decide) (fun t=>0) (fun i hi=>by omega) (fun i hi=>absurd hi (Nat.not_lt_zero _)) ?_
 have hz':(0:Int)<nt P.length:=hz
 simp only [LD.m,f6_l15,hz',decide_true,cond_true,b0,ask_true,Int.toNat_zero,hlive,Bool.not_true,cond_false,b1,hT,b2]
 rw [hno]
 rfl
end
theorem math6 (g:TGraph) (l:List TMods) (hg:okC maxLen cGraph g) (hl:okC maxLen (.slice cMods) l):f6_m (g,l)=some true:=by
 have hL:=lens_of (Nat.le_refl _) hg
 have hn:=nums_of hg
 obtain ⟨⟨ll,_⟩,hle⟩:=hl
 rw [maxLen_eq] at ll
 have hM:∀ j,j<l.length→LensM (gx l j dMods):=fun j hj=>lensM_of (Nat.le_refl _) (hle _ (List.mem_of_getElem? (gx_lt hj)))
 unfold f6_m f6_c
 obtain ⟨r1,q1,q2⟩:=f10_eq hL
 simp only
 rw [q1]
 simp only [Option.bind_some]
 cases r1
 · simp only [Bool.not_false,cond_true];rw [awake];rfl
 · obtain ⟨D,hG⟩:=q2 rfl
   simp only [Bool.not_true,cond_false]
   rw [f20_eq ll hM]
   simp only [Option.bind_some]
   cases hf:(List.range l.length).all fun i=>fitM g (gx l i dMods)
   · simp only [Bool.not_false,cond_true];rw [awake];rfl
   · simp only [Bool.not_true,cond_false]
     have hst:∀ j,j<l.length→StM g (gx l j dMods):=fun j hj=>st_of (l:=l) (.inr trivial) (hM j hj) (List.all_eq_true.1 hf j (List.mem_range.2 hj))
     obtain ⟨P,O,p1,p2,hO,hP,least⟩:=f21_eq hG hn
     have hN:=hG.N;have hN1:=hG.N1
     have hPl:=hP.len
     rw [p1]
     simp only [Option.bind_some]
     have hPst:∀ j,j<P.length→StM g (gx P j dMods):=fun j hj=>hP.st j (by omega)
     obtain ⟨b,c1,c2⟩:=f23_eq hG hn p2 hO hPst
     rw [c1,c2.2 hP]
     simp only [Option.bind_some,Bool.not_true,cond_false]
     rw [f20_eq (l:=P) (by omega) (fun j hj=>(fit_of hG (hPst j hj)).1)]
     have hfP:((List.range P.length).all fun i=>fitM g (gx P i dMods))=true:=List.all_eq_true.2 fun j hj=>(fit_of hG (hPst j (List.mem_range.1 hj))).2
     rw [hfP]
     simp only [Option.bind_some,Bool.not_true,cond_false]
     obtain ⟨b',d1,d2⟩:=f23_eq hG hn p2 hO hst
     rw [d1]
     simp only [Option.bind_some]
     have hPz:decide (nt P.length=0)=false:=decide_eq_false (by simp only [nt];omega)
     cases b'
     · simp only [cond_false,hPz]
       cases decide (nt l.length=0)
       · simp only [cond_false]
         rw [l6_15 hG hP]
         simp only [Option.bind_some,Sum.elim_inr]
         rw [awake];rfl
       · simp only [cond_true];rw [awake];rfl
     · have hI:=d2.1 rfl
       have hll:=hI.len
       have hlz:decide (nt l.length=0)=false:=decide_eq_false (by simp only [nt];omega)
       simp only [cond_true]
       rw [loop_all (n:=P.length) (by omega) (p:=fun _=>true) (fun i hi=>by
         have h':(i:Int)<nt P.length:=by simp only [nt];omega
         have hil:i<l.length:=by omega
         simp only [LD.m,f6_l8,h',decide_true,cond_true,inR hi,inR hil,ask_true,Int.toNat_natCast]
         rw [f25_eq (fun h1 h2=>(hPst i hi).pairM hG (hst i hil) h1 h2),(least l hI i (by omega)).leq]
         rfl) (by
         have h':¬ (P.length:Int)<nt P.length:=Int.lt_irrefl _
         simp only [LD.m,f6_l8,h',decide_false,cond_false])]
       have:((List.range P.length).all fun _=>true)=true:=by simp
       rw [this]
       simp only [cond_true,Option.bind_some,Sum.elim_inr,hPz,hlz,cond_false]
       rw [l6_15 hG hP]
       simp only [Option.bind_some,Sum.elim_inr]
       rw [awake];rfl
end Go.U
end
