/- What these Lean functions compute: plain arithmetic of congruences, the checks of a graph, the values of its registers. -/
import Derived.Test.YtjenflkegbmkkaaGreatDoorD9
set_option linter.unusedVariables false
set_option linter.unusedSimpArgs false
set_option linter.unusedSectionVars false
open Bool renaming and_eq_true→Ia,not_false→Ve,not_true→Xl
open Classical renaming byContradiction→Cf
open Int renaming toNat_natCast→Ca,lt_irrefl→Mb,toNat→ga
open List renaming mem_map→ye,map_append→Zu,range→ua,nodup_append→By,mem_append→Tn,mem_of_mem_eraseIdx→vg,length_eraseIdx→Pm,mem_eraseIdx_iff_getElem?→Se,mem_of_getElem?→jb,length_singleton→Ar,length_take→dc,append_nil→Qm,eraseIdx_of_length_le→Br,length_append→Ud,take_length→qo,eraseIdx_eq_take_drop_succ→wg,getElem?_eq_getElem→ya,take_of_length_le→Ue,length_drop→Kl,length_map→Ec,length→fa,mem_iff_getElem?→GB
open Nat renaming zero_le→Nd,le_refl→oa,le_trans→Ib
open Option renaming bind_some→da
open Sum renaming elim_inr→qt
section
set_option maxRecDepth 20000
namespace Go.U
open Go
section
variable {g:Ba} (n:Nat) (C:Int->Pa)
def js (g:Ba) (C:Int->Pa) (l:List Int):Pa:=jl g (l.map C)
def vv (g:Ba) (C:Int->Pa) (l:List Int) (i:Nat):Nat:=Lr (C i) (js g C l)
def Pt (g:Ba) (n:Nat) (C:Int->Pa) (l:List Int):Int:=(ZL (vv g C l) n).1
def gr (g:Ba) (n:Nat) (C:Int->Pa):Nat->List Int
 |0=>[]
 |k+1=>gr g n C k++[Pt g n C (gr g n C k)]
variable {n C} (hC:∀ i,Bi g (C i))
include hC
theorem Yaa (l:List Int):kM g (l.map C):=fun c hc=>by
 obtain ⟨i,_,rfl⟩:=ye.1 hc;exact hC i
theorem eu (l:List Int):Bi g (js g C l):=jag (Yaa hC l)
theorem pT {l:List Int} {i:Int} (h:i∈l):Bf (C i) (js g C l):=l5 (Yaa hC l) (List.mem_map_of_mem h)
theorem oT {l:List Int} {X:Pa} (h:∀ i∈l,Bf (C i) X):Bf (js g C l) X:=qT (Yaa hC l) fun y hy=>by
 obtain ⟨i,hi,rfl⟩:=ye.1 hy;exact h i hi
theorem Dq {l r:List Int} (h:∀ i∈l,i∈r):Bf (js g C l) (js g C r):=oT hC fun i hi=>pT hC (h i hi)
theorem oac {l r:List Int} (h:∀ i,i∈l↔i∈r):js g C l=js g C r:=Bf.y4 (eu hC l) (eu hC r) (Dq hC fun i=>(h i).1) (Dq hC fun i=>(h i).2)
omit hC in
theorem PE {l:List Int} {i:Int}:js g C (l++[i])=ee (js g C l) (C i):=by unfold js;rw [Zu];exact B0
theorem tM {l:List Int} (h:0<=Pt g n C l):∃ j:Nat,j<n/\Pt g n C l=j/\(j:Int)∉l:=by
 rcases wG (vv g C l) n with ⟨h1,_⟩|⟨j,h1,h2,h3⟩
 · unfold Pt at h;rw [h1] at h;exact absurd h (by decide)
 · refine ⟨j,h1,by unfold Pt;rw [h2],fun hm=> ?_⟩;have:Lr (C j) (js g C l)=0:=xq.2 (pT hC hm);unfold vv at h3;omega
omit hC in
theorem RZ {l:List Int} (h:Pt g n C l<0):∀ i:Nat,i<n->Bf (C i) (js g C l):=fun i hi=>by
 rcases wG (vv g C l) n with ⟨_,h2⟩|⟨j,h1,h2,h3⟩
 · exact xq.1 (h2 i hi)
 · unfold Pt at h;rw [h2] at h;simp only at h;omega
structure ChOK (n:Nat) (l:List Int):Prop where
 nd:l.Nodup
 r:∀ i∈l,0<=i/\i<(n:Int)
omit hC in
theorem ChOK.len {l:List Int} (h:ChOK n l):l.length<=n:=by
 have:=Uv l ((ua n).map fun i:Nat=>(i:Int)) h.nd fun x hx=>by
  obtain ⟨h1,h2⟩:=h.r x hx;exact ye.2 ⟨x.toNat,List.mem_range.2 (by omega),by omega⟩
 simpa using this
theorem cD:∀ k,(∀ i,i<k->0<=Pt g n C (gr g n C i))->ChOK n (gr g n C k)/\(gr g n C k).length=k
 |0,_=>⟨⟨List.nodup_nil,fun i h=>by cases h⟩,rfl⟩
 |k+1,h=>by
  obtain ⟨⟨h1,h2⟩,h3⟩:=cD k fun i hi=>h i (by omega)
  obtain ⟨j,j1,j2,j3⟩:=tM hC (h k (by omega));refine ⟨⟨?_,fun i hi=> ?_⟩,by simp [gr,h3]⟩
  · rw [gr,By];exact ⟨h1,by simp,fun a ha b hb=>by simp at hb;subst hb;rw [j2];exact fun e=>j3 (e ▸ ha)⟩
  · rcases Tn.1 hi with hi|hi
    · exact h2 i hi
    · simp at hi;subst hi;rw [j2];omega
theorem jU:∀ k,(∀ i,i<k->0<=Pt g n C (gr g n C i))->k<=eB (js g C (gr g n C k))
 |0,_=>Nd _
 |k+1,h=>by
  have ih:=jU k fun i hi=>h i (by omega)
  rw [gr,PE,WI (eu hC _).toCov (hC _).toCov];rcases wG (vv g C (gr g n C k)) n with ⟨h1,_⟩|⟨j,h1,h2,h3⟩
  · have:=h k (by omega);unfold Pt at this;rw [h1] at this;exact absurd this (by decide)
  · have e:Pt g n C (gr g n C k)=(j:Int):=by unfold Pt;rw [h2]
    rw [e];unfold vv at h3;omega
theorem X':∃ K,K<=n/\Pt g n C (gr g n C K)<0/\∀ i,i<K->0<=Pt g n C (gr g n C i):=by
 obtain ⟨j,h1,h2,h3⟩:=ow (ok:=fun k=>0<=Pt g n C (gr g n C k)) (n+1) (Cf fun hc=>by
  have Af:∀ i,i<n+1->0<=Pt g n C (gr g n C i):=fun i hi=>Cf fun h=>hc ⟨i,hi,h⟩
  obtain ⟨k1,k2⟩:=cD hC (n+1) Af;have:=k1.len;omega)
 exact ⟨j,by omega,by omega,h3⟩
open Classical in
noncomputable def dst (g:Ba) (C:Int->Pa) (X:Pa) (k:Nat) (l:List Int):List Int:=if Bf X (js g C (l.eraseIdx k)) then l.eraseIdx k else l
noncomputable def dl (g:Ba) (C:Int->Pa) (X:Pa) (ch:List Int):Nat->List Int
 |0=>ch
 |i+1=>dst g C X (ch.length-(i+1)) (dl g C X ch i)
structure bZ (g:Ba) (n:Nat) (C:Int->Pa) (X:Pa) (k:Nat) (l:List Int):Prop extends ChOK n l where
 all:Bf X (js g C l)
 len:k<=l.length
 idle:∀ j,k<=j->j<l.length->¬ Bf X (js g C (l.eraseIdx j))
omit hC in
theorem ChOK.erase {l:List Int} (h:ChOK n l) (k:Nat):ChOK n (l.eraseIdx k):=⟨h.nd.sublist (List.eraseIdx_sublist l k),fun i hi=>h.r i (vg hi)⟩
theorem bZ.next {X:Pa} {k:Nat} {l:List Int} (h:bZ g n C X (k+1) l):bZ g n C X k (dst g C X k l):=by
 have hk:=h.len;unfold dst;split
 · rename_i hs;refine ⟨h.toChOK.erase k,hs,by rw [Pm];split<;>omega,fun j hj KP hb=> ?_⟩;rw [Pm,if_pos (by omega)] at KP;refine h.idle (j+1) (by omega) (by omega) (hb.trans (Dq hC fun i hi=> ?_));obtain ⟨a,ha,hai⟩:=Se.1 hi;rw [List.getElem?_eraseIdx] at hai;split at hai
   · exact Se.2 ⟨a,by omega,hai⟩
   · exact Se.2 ⟨a+1,by omega,hai⟩
 · rename_i hs;refine ⟨h.toChOK,h.all,by omega,fun j hj KP=> ?_⟩;by_cases e:j=k
   · subst e;exact hs
   · exact h.idle j (by omega) KP
theorem wY {X:Pa} {ch:List Int} (h:ChOK n ch) (hX:Bf X (js g C ch)):∀ i,i<=ch.length->bZ g n C X (ch.length-i) (dl g C X ch i)
 |0,_=>⟨h,hX,oa _,fun j h1 h2=>by simp only [dl] at h2;omega⟩
 |i+1,hi=>bZ.next hC (by have:=wY h hX i (by omega);rwa [show ch.length-i=ch.length-(i+1)+1 by omega] at this)
omit hC in
theorem lG {X:Pa} {ch:List Int}:∀ i,(dl g C X ch i).length<=ch.length
 |0=>oa _
 |i+1=>by
  have:=lG (X:=X) (ch:=ch) i;unfold dl dst;split
  · rw [Pm];split<;>omega
  · exact this
omit hC in
theorem kG {X:Pa} {ch:List Int}:∀ i,∀ x∈dl g C X ch i,x∈ch
 |0,x,h=>h
 |i+1,x,h=>by
  unfold dl dst at h;split at h
  · exact kG i x (vg h)
  · exact kG i x h
end
end Go.U
end
section
set_option maxRecDepth 20000
namespace Go.U
open Go
def CI (g:Ba) (L:List (List Int)) (fu:Int) (i:Int):Pa:=Vs g (gx L i.toNat []) fu
def idx (n:Nat):List Int:=(ua n).map fun i:Nat=>(i:Int)
theorem IE {n:Nat} {i:Int}:i∈idx n↔0<=i/\i<(n:Int):=by
 unfold idx;rw [ye];exact ⟨fun ⟨j,h,e⟩=>by have:=List.mem_range.1 h;omega,fun h=>⟨i.toNat,List.mem_range.2 (by omega),by omega⟩⟩
theorem O8 (n:Nat):(idx n).Nodup:=List.nodup_range.map _ fun a b h=>by
 intro e;exact h (Int.ofNat.inj e)
theorem vT (n:Nat):idx (n+1)=idx n++[(n:Int)]:=by unfold idx;rw [List.range_succ,Zu];rfl
section
variable {g:Ba} {D:List Int} {L:List (List Int)} {fu:Int} (hF:Ng g D) (Ci:fu<=1000000) (hL:kS L) (hn:L.length<=9223372036854775807)
theorem aF (hL:kS L) (i:Nat):(gx L i []).length<=9223372036854775807:=by
 by_cases h:i<L.length
 · exact hL _ (jb (jh (d:=[]) h))
 · rw [wA (by omega)];simp
include hF Ci hL
theorem bab (i:Int):Bi g (CI g L fu i):=SL hF Ci (aF hL _)
include hn
theorem JX:Oa (Pp.m ((L,fu),L,nt L.length,g)) (0,[])=some (Su (CI g L fu) (idx L.length)):=by
 have:=Md (step:=Pp.m ((L,fu),L,nt L.length,g)) (n:=L.length) (fun i=>((i:Int),Su (CI g L fu) (idx i))) (Su (CI g L fu) (idx L.length)) (by omega) (fun t=>L.length-t.1.toNat) (fun i _=>by simp) (fun i hi=>by
  have h':(i:Int)<(L.length:Int):=by omega
  have w:Ga ((i:Int)+1)=((i+1:Nat):Int):=by rw [Sb (by omega) (by omega)];rfl
  have hs:=Lz (CI g L fu) (i:Int) (idx i) fun h=>by have:=IE.1 h;omega
  simp only [LD.m,Pp,nt,h',decide_true,cond_true,Rh hi,Xa,Ca,w];rw [rX hF (aF hL i) Ci,da,vT,<- hs];simp only [CI,Ca]) (by
  simp only [LD.m,Pp,nt,Mb,decide_false,cond_false])
 exact this
omit hL hn Ci in
theorem jR (hn:L.length<=9223372036854775807) {C:Int->Pa} (hC:∀ i,Bi g (C i)) (lf cl:List Int) (cv:List (Int×Pa)) (hlf:∀ i:Nat,i<L.length->(i:Int)∉lf->vv g C cl i=0):Oa (Zj.m (L,nt L.length,g,Su C lf,cv,cl,(js g C cl).1,(js g C cl).2.1,(js g C cl).2.2)) (-1,0,0)=some (Pt g L.length C cl):=by
 have hN:=hF.N;have:=Md (step:=Zj.m (L,nt L.length,g,Su C lf,cv,cl,(js g C cl).1,(js g C cl).2.1,(js g C cl).2.2)) (n:=L.length) (fun i=>((ZL (vv g C cl) i).1,((ZL (vv g C cl) i).2:Int),(i:Int))) (Pt g L.length C cl) (by omega) (fun t=>L.length-t.2.2.toNat) (fun i _=>by simp) (fun i hi=>by
  have h':(i:Int)<(L.length:Int):=by omega
  have w:Ga ((i:Int)+1)=((i+1:Nat):Int):=by rw [Sb (by omega) (by omega)];rfl
  simp only [LD.m,Zj,nt,h',decide_true,cond_true,ku,w];by_cases hm:(i:Int)∈lf
  · have e:=T_ hN ((hC i).toCov.ok hF) ((eu hC cl).toCov.ok hF);rw [decide_eq_true hm,cond_true,nu C _ _ _ hm,e,da];by_cases hb:(ZL (vv g C cl) i).2<vv g C cl i
    · have zd:((ZL (vv g C cl) i).2:Int)<(Lr (C i) (js g C cl):Int):=Int.ofNat_lt.2 hb;rw [decide_eq_true zd,cond_true,da,ZL,if_pos hb];rfl
    · have zd:¬ ((ZL (vv g C cl) i).2:Int)<(Lr (C i) (js g C cl):Int):=fun h=>hb (Int.ofNat_lt.1 h)
      rw [decide_eq_false zd,cond_false,ZL,if_neg hb]
  · rw [decide_eq_false hm,cond_false,ZL,if_neg (by rw [hlf i hi hm];omega)]) (by
  simp only [LD.m,Zj,nt,Mb,decide_false,cond_false];rfl)
 exact this
def lf (g:Ba) (n:Nat) (C:Int->Pa):Nat->List Int
 |0=>idx n
 |k+1=>(lf g n C k).erase (Pt g n C (gr g n C k))
omit hF hn hL Ci in
theorem YJ {n:Nat} {C:Int->Pa}:∀ k,(lf g n C k).Nodup/\∀ i,i∈lf g n C k↔i∈idx n/\i∉gr g n C k
 |0=>⟨O8 n,fun i=>by simp [lf,gr]⟩
 |k+1=>by
  obtain ⟨h1,h2⟩:=YJ k;refine ⟨h1.erase _,fun i=> ?_⟩;rw [lf,h1.mem_erase_iff,h2,gr,Tn,List.mem_singleton];constructor
  · rintro ⟨a,b,c⟩;exact ⟨b,fun h=>h.elim c a⟩
  · rintro ⟨a,b⟩;exact ⟨fun h=>b (.inr h),a,fun h=>b (.inl h)⟩
omit hL Ci hn in
theorem kR (hn:L.length<=9223372036854775807) {C:Int->Pa} (hC:∀ i,Bi g (C i)) {K:Nat} (hK:K<=L.length) (hK2:K<=2000000) (h1:Pt g L.length C (gr g L.length C K)<0) (h2:∀ i,i<K->0<=Pt g L.length C (gr g L.length C i)):Oa (Al.m (L,g)) (Su C (idx L.length),[],[],(Df g).1,(Df g).2.1,(Df g).2.2)=some (Su C (gr g L.length C K),gr g L.length C K,(js g C (gr g L.length C K)).1,(js g C (gr g L.length C K)).2.1,(js g C (gr g L.length C K)).2.2):=by
 have hN:=hF.N;have inner:∀ k,Oa (Zj.m (L,nt L.length,g,Su C (lf g L.length C k),Su C (gr g L.length C k),gr g L.length C k,(js g C (gr g L.length C k)).1,(js g C (gr g L.length C k)).2.1,(js g C (gr g L.length C k)).2.2)) (-1,0,0)=some (Pt g L.length C (gr g L.length C k)):=fun k=>
  jR hF hn hC _ _ _ fun i hi hm=>xq.2 (pT hC (Cf fun h=>hm (((YJ k).2 _).2 ⟨IE.2 (by omega),h⟩)))
 have:=Md (step:=Al.m (L,g)) (n:=K) (fun k=>(Su C (lf g L.length C k),Su C (gr g L.length C k),gr g L.length C k,(js g C (gr g L.length C k)).1,(js g C (gr g L.length C k)).2.1,(js g C (gr g L.length C k)).2.2)) (Su C (gr g L.length C K),gr g L.length C K,(js g C (gr g L.length C K)).1,(js g C (gr g L.length C K)).2.1,(js g C (gr g L.length C K)).2.2) (by omega) (fun t=>K-t.2.2.1.length) (fun k hk=>by rw [(cD hC k fun i hi=>h2 i (by omega)).2]) (fun k hk=>by
  obtain ⟨ok,hlen⟩:=cD hC k fun i hi=>h2 i (by omega)
  obtain ⟨j,j1,j2,j3⟩:=tM hC (h2 k hk);have hm:(j:Int)∈lf g L.length C k:=((YJ k).2 _).2 ⟨IE.2 (by omega),j3⟩;have d:¬ (j:Int)<0:=by omega
  have i1:=inner k;rw [j2] at i1;have hs:=Lz C (j:Int) (gr g L.length C k) j3;have e:=yL hN ((eu hC (gr g L.length C k)).toCov.ok hF) ((hC j).toCov.ok hF);rw [<- PE] at e;simp only [LD.m,Al];rw [i1,da,decide_eq_false d,cond_false];refine (Fe (by simp only [Ia,decide_eq_true_eq,Ar];omega)).trans ?_;rw [ku,decide_eq_true hm,cond_true,cond_true,nu C _ _ _ hm,e,da,OI,hs];simp only [lf,gr,j2]) (by
  simp only [LD.m,Al];rw [inner K,da,decide_eq_true h1];rfl)
 exact this
omit hL Ci hn in
theorem gR {C:Int->Pa} (hC:∀ i,Bi g (C i)) (k:Nat) (ch l:List Int) (X:Pa) (EP:∀ x∈l,x∈ch) (hl:l.length<=2000000):Oa (vl.m ((k:Int),nt l.length,g,Su C ch,l,X)) (0,(Df g).1,(Df g).2.1,(Df g).2.2)=some ((js g C (l.eraseIdx k)).1,(js g C (l.eraseIdx k)).2.1,(js g C (l.eraseIdx k)).2.2):=by
 have hN:=hF.N;have:=Md (step:=vl.m ((k:Int),nt l.length,g,Su C ch,l,X)) (n:=l.length) (fun i=>((i:Int),(js g C ((l.take i).eraseIdx k)).1,(js g C ((l.take i).eraseIdx k)).2.1,(js g C ((l.take i).eraseIdx k)).2.2)) ((js g C (l.eraseIdx k)).1,(js g C (l.eraseIdx k)).2.1,(js g C (l.eraseIdx k)).2.2) (by omega) (fun t=>l.length-t.1.toNat) (fun i _=>by simp) (fun i hi=>by
  have h':(i:Int)<(l.length:Int):=by omega
  have w:Ga ((i:Int)+1)=((i+1:Nat):Int):=by rw [Sb (by omega) (by omega)];rfl
  have hm:gx l i 0∈ch:=EP _ (jb (jh (d:=0) hi));have hlen:(l.take i).length=i:=by rw [dc];omega
  simp only [LD.m,vl,nt,h',decide_true,cond_true,Rh hi,Xa,Ca,w];by_cases NM:i=k
  · have e:(l.take (i+1)).eraseIdx k=(l.take i).eraseIdx k:=by
     rw [Qg 0 hi,List.eraseIdx_append_of_length_le (by omega),hlen,NM,Nat.sub_self];show List.take k l++[]=_;rw [Qm,Br (by rw [dc];omega)]
    rw [e,decide_eq_true (by rw [NM])];rfl
  · have d:¬ (i:Int)=(k:Int):=by omega
    have e:(l.take (i+1)).eraseIdx k=(l.take i).eraseIdx k++[gx l i 0]:=by
     rw [Qg 0 hi];by_cases nc:k<i
     · rw [List.eraseIdx_append_of_lt_length (by omega)]
     · rw [Br (by rw [Ud,hlen,Ar];omega),Br (by omega)]
    have e2:=yL hN ((eu hC ((l.take i).eraseIdx k)).toCov.ok hF) ((hC (gx l i 0)).toCov.ok hF);rw [<- PE,<- e] at e2;simp only [d,decide_false,Ve,cond_true];have hh:uA (k:= .int .i64) (gx l i (0:Int)) (Su C ch)=true:=(ku C (gx l i 0) ch).trans (decide_eq_true hm);have hg:Ps (k:= .int .i64) (gx l i (0:Int)) Pn (Su C ch)=C (gx l i 0):=nu C (gx l i 0) Pn ch hm;rw [hh,cond_true,hg,e2];rfl) (by
  simp only [LD.m,vl,nt,Mb,decide_false,cond_false,qo])
 exact this
omit hL Ci hn in
theorem iR {n:Nat} {C:Int->Pa} (hC:∀ i,Bi g (C i)) (ch:List Int) (K5:ChOK n ch) (tK:ch.length<=2000000) (X:Pa) (hX:X=js g C ch):Oa (xl.m (g,Su C ch,X)) (Ga ((ch.length:Int)-1),ch)=some (dl g C X ch ch.length):=by
 have hN:=hF.N;have hXs:Bi g X:=by rw [hX];exact eu hC ch
 have w0:Ga ((ch.length:Int)-1)=(ch.length:Int)-1:=Sb (by omega) (by omega);have:=Md (step:=xl.m (g,Su C ch,X)) (n:=ch.length) (fun i=>((ch.length:Int)-1-i,dl g C X ch i)) (dl g C X ch ch.length) (by omega) (fun t=>(t.1+1).toNat) (fun i hi=>by simp only;omega) (fun i hi=>by
  have ok:=wY hC K5 (X:=X) (by rw [hX];exact .refl _) i (by omega);have hlen:=ok.len;have D5:=lG (g:=g) (C:=C) (X:=X) (ch:=ch) i;obtain ⟨k,hk⟩:∃ k:Nat,ch.length-(i+1)=k:=⟨_,rfl⟩;have hki:(ch.length:Int)-1-i=(k:Int):=by omega
  have h0:(0:Int)<=(k:Int):=by omega
  have w1:Ga ((k:Int)+1)=((k+1:Nat):Int):=by rw [Sb (by omega) (by omega)];rfl
  have w2:Ga ((k:Int)-1)=(ch.length:Int)-1-((i+1:Nat):Int):=by rw [Sb (by omega) (by omega)];omega
  have e28:=gR hF hC k ch (dl g C X ch i) X (kG i) (by omega);obtain ⟨r,e24,h24⟩:=zaa hN (hXs.toCov.ok hF) ((eu hC ((dl g C X ch i).eraseIdx k)).toCov.ok hF);simp only [LD.m,xl,hki,decide_eq_true h0,cond_true,w1,w2];rw [aG hF,da,e28,da,e24,da,dl,hk,dst];cases r
  · have xH:¬ Bf X (js g C ((dl g C X ch i).eraseIdx k)):=fun h=>by have:=h24.2 ⟨h.toLeC,h.e⟩;cases this
    rw [if_neg xH];rfl
  · have hs:Bf X (js g C ((dl g C X ch i).eraseIdx k)):=⟨(h24.1 rfl).1,(h24.1 rfl).2⟩;have e45:vD ((k:Int),((k+1:Nat):Int),dl g C X ch i)=some ((dl g C X ch i).eraseIdx k):=by
     unfold vD;refine (Fe (by simp only [Ia,decide_eq_true_eq];omega)).trans ?_;rw [wg,Ca,Ca]
    rw [if_pos hs,cond_true,e45];rfl) (by
  have d:¬ (0:Int)<=(ch.length:Int)-1-(ch.length:Int):=by omega
  simp only [LD.m,xl,decide_eq_false d,cond_false])
 rw [w0]
 simpa [dl] using this
theorem Aaa:∃ K,K<=L.length/\K<=2000000/\Pt g L.length (CI g L fu) (gr g L.length (CI g L fu) K)<0/\(∀ i,i<K->0<=Pt g L.length (CI g L fu) (gr g L.length (CI g L fu) i))/\Mx (g,L,fu)=some (Qe (dl g (CI g L fu) (js g (CI g L fu) (gr g L.length (CI g L fu) K)) (gr g L.length (CI g L fu) K) (gr g L.length (CI g L fu) K).length)):=by
 have hC:=bab (L:=L) hF Ci hL;obtain ⟨K,h1,h2,h3⟩:=X' (n:=L.length) hC;have hK2:K<=2000000:=Ib (jU hC K h3) (IY hF.N ((eu hC _).toCov.ok hF));refine ⟨K,h1,hK2,h2,h3,?_⟩;obtain ⟨ok,hlen⟩:=cD hC K h3;have e3:=JX hF Ci hL hn;have aB:=kR hF hn hC h1 hK2 h2 h3;have e24:=iR hF hC (gr g L.length (CI g L fu) K) ok (by omega) (js g (CI g L fu) (gr g L.length (CI g L fu) K)) rfl;have hd:=lG (g:=g) (C:=CI g L fu) (X:=js g (CI g L fu) (gr g L.length (CI g L fu) K)) (ch:=gr g L.length (CI g L fu) K) (gr g L.length (CI g L fu) K).length;unfold Mx bO;simp only;rw [e3,da,aG hF,da,aB,da];simp only [nt];rw [e24,da];unfold AI;rw [Fe (by rw [decide_eq_true_eq];omega)];rfl
end
end Go.U
end
section
set_option maxRecDepth 20000
namespace Go.U
open Go
theorem mm {l:List Int} {x:Int}:x∈Qe l↔x∈l:=(V.Re _ l).mem_iff
theorem BS {l:List Int} (h:l.Nodup):(Qe l).Pairwise fun a b=>a<b:=by
 have h1:=V.Yi (lt:=fun a b:Int=>decide (a<b)) (fun a b c h1 h2=>by have:=of_decide_eq_false h1;have:=of_decide_eq_false h2;exact decide_eq_false (by omega)) (fun a b h=>by have:=of_decide_eq_true h;exact decide_eq_false (by omega)) l;have h2:(Qe l).Nodup:=(V.Re _ l).nodup_iff.2 h;exact (List.pairwise_and_iff.2 ⟨h1,h2⟩).imp fun ⟨a,b⟩=>by have:=of_decide_eq_false a;omega
theorem Mad {l:List Int} (h:l.Pairwise fun a b=>a<b) {i j:Nat} (Ky:i<j) (hj:j<l.length):gx l i 0<gx l j 0:=by
 have:=List.pairwise_iff_getElem.1 h i j (by omega) hj Ky
 rwa [lp (ya (show i<l.length by omega)),lp (ya hj)]
theorem wai {α:Type} {l:List α} {i:Nat}:Vi 0 (ga (i:Int)-0) l=l.take i:=by rw [Ca];rfl
theorem vai {α:Type} {l:List α} {i:Nat} (h:i<l.length):Vi (ga ((i+1:Nat):Int)) (ga (l.length:Int)-ga ((i+1:Nat):Int)) l=l.drop (i+1):=by
 rw [Ca,Ca];show (l.drop (i+1)).take _=_;rw [Ue (by rw [Kl];omega)]
section
variable {g:Ba} {D:List Int} {L:List (List Int)} {fu:Int} (hF:Ng g D) (Ci:fu<=1000000) (hL:kS L) (hn:L.length<=9223372036854775807)
def GC (L:List (List Int)) (l:List Int):List (List Int):=l.map fun x=>gx L x.toNat []
theorem aT (l:List Int):QJ g (GC L l) fu=js g (CI g L fu) l:=by rw [PJ];unfold GC js;rw [List.map_map];rfl
theorem c8 (hL:kS L) (l:List Int):kS (GC L l):=fun s hs=>by
 obtain ⟨x,_,rfl⟩:=ye.1 hs;exact aF hL _
theorem y3 (hn:L.length<=9223372036854775807) (l:List Int) (h:∀ x∈l,0<=x/\x<(L.length:Int)) (hup:l.Pairwise fun a b=>a<b) (hl:l.length<=2000000):Oa (Ix.m (L,fu,l,g)) (0,[])=some (.inr (GC L l)):=by
 have:=Md (step:=Ix.m (L,fu,l,g)) (n:=l.length) (fun i=>((i:Int),GC L (l.take i))) (.inr (GC L l)) (by omega) (fun t=>l.length-t.1.toNat) (fun i _=>by simp) (fun i hi=>by
  have h':(i:Int)<(l.length:Int):=by omega
  have w:Ga ((i:Int)+1)=((i+1:Nat):Int):=by rw [Sb (by omega) (by omega)];rfl
  obtain ⟨r1,r2⟩:=h _ (jb (jh (d:=0) hi));have d1:¬ gx l i 0<0:=by omega
  have d2:¬ (L.length:Int)<=gx l i 0:=by omega
  have hb:(GC L (l.take i)).length=i:=by unfold GC;rw [Ec,dc];omega
  have e:GC L (l.take (i+1))=GC L (l.take i)++[gx L (gx l i 0).toNat []]:=by rw [Qg 0 hi];unfold GC;rw [Zu];rfl
  have b:(decide (((GC L (l.take i)).length+fa ([gx L (gx l i 0).toNat []]:List (List Int))) * 24<=70368744177664)&&decide ((GC L (l.take i)).length+fa ([gx L (gx l i 0).toNat []]:List (List Int))<9223372036854775808))=true:=by
    simp only [Ia,decide_eq_true_eq,Ar];omega
  simp only [LD.m,Ix,nt,h',decide_true,cond_true,Rh hi,Xa,Ca,w,d1,d2,decide_false,cond_false,Am r1 r2,e];by_cases h0:(0:Int)<(i:Int)
  · have w2:Ga ((i:Int)-1)=((i-1:Nat):Int):=by rw [Sb (by omega) (by omega)];omega
    have nc:=Mad hup (show i-1<i by omega) hi;have d3:¬ gx l i 0<=gx l (i-1) 0:=by omega
    simp only [h0,decide_true,cond_true,w2,Rh (show i-1<l.length by omega),Xa,Ca,d3,decide_false,cond_false];exact Fe b
  · simp only [h0,decide_false,cond_false];exact Fe b) (by
  simp only [LD.m,Ix,nt,Mb,decide_false,cond_false,qo])
 exact this
include hF Ci
theorem jW (ch:List (List Int)) (K5:kS ch) (tK:ch.length<=2000000) (X:Pa) (hX:Bi g X) (nc:∀ i,i<ch.length->eB (QJ g (ch.eraseIdx i) fu)<eB X):Oa (zp.m (fu,g,ch,X)) 0=some (.inr ()):=by
 have hN:=hF.N;have:=Md (step:=zp.m (fu,g,ch,X)) (n:=ch.length) (fun i=>(i:Int)) (.inr ()) (by omega) (fun t=>ch.length-t.toNat) (fun i _=>by simp) (fun i hi=>by
  have h':(i:Int)<(ch.length:Int):=by omega
  have w:Ga ((i:Int)+1)=((i+1:Nat):Int):=by rw [Sb (by omega) (by omega)];rfl
  have hr:kS (ch.eraseIdx i):=fun s hs=>K5 s (vg hs)
  have YC:(ch.eraseIdx i).length<=2000000:=by rw [Pm];split<;>omega
  have e1:=FL hF Ci (Kv (by omega) hr);have e2:=SX hN ((ZS hF Ci hr).toCov.ok hF);have e3:=SX hN (hX.toCov.ok hF);have d:¬ (eB X:Int)<=(eB (QJ g (ch.eraseIdx i) fu):Int):=by have:=nc i hi;omega
  simp only [LD.m,zp,nt,h',decide_true,cond_true,w,wai,vai hi];have l1:(ch.take i).length<=2000000:=by rw [dc];omega
  have l2:(ch.drop (i+1)).length<=2000000:=by rw [Kl];omega
  refine (Fe (b:=decide ((0:Int)<=0)&&decide ((0:Int)<=i)&&decide ((i:Int)<=(ch.length:Int))) (by simp only [Ia,decide_eq_true_eq];omega)).trans ?_;refine (Fe (by simp only [Ia,decide_eq_true_eq];omega)).trans ?_;refine (Fe (b:=decide ((0:Int)<=((i+1:Nat):Int))&&decide (((i+1:Nat):Int)<=(ch.length:Int))&&decide ((ch.length:Int)<=(ch.length:Int))) (by simp only [Ia,decide_eq_true_eq];omega)).trans ?_;refine (Fe (by simp only [Ia,decide_eq_true_eq];omega)).trans ?_;rw [<- wg,DD,e1,da,e2,da,e3,da,decide_eq_false d];rfl) (by
  simp only [LD.m,zp,nt,Mb,decide_false,cond_false])
 exact this
include hL hn
theorem YZ:∃ F:List Int,Mx (g,L,fu)=some (Qe F)/\ChOK L.length F/\F.length<=2000000/\js g (CI g L fu) F=QJ g L fu/\∀ j,j<(Qe F).length->eB (js g (CI g L fu) ((Qe F).eraseIdx j))<eB (QJ g L fu):=by
 have hC:=bab (L:=L) hF Ci hL;obtain ⟨K,h1,hK2,h2,h3,h4⟩:=Aaa hF Ci hL hn;obtain ⟨ok,hlen⟩:=cD hC K h3;generalize gr g L.length (CI g L fu) K=ch at *
 have hd:=wY hC ok (X:=js g (CI g L fu) ch) (.refl _) _ (oa _);rw [Nat.sub_self] at hd;have hdl:=lG (g:=g) (C:=CI g L fu) (X:=js g (CI g L fu) ch) (ch:=ch) ch.length;have EP:=kG (g:=g) (C:=CI g L fu) (X:=js g (CI g L fu) ch) (ch:=ch) ch.length;generalize dl g (CI g L fu) (js g (CI g L fu) ch) ch ch.length=F at *
 have Af:=ZS hF Ci hL;have eX:js g (CI g L fu) ch=QJ g L fu:=by
  refine Bf.y4 (eu hC _) Af (oT hC fun i hi=> ?_) ?_
  · rw [PJ];obtain ⟨r1,r2⟩:=ok.r i hi;exact l5 (fun c hc=>by
     obtain ⟨s,hs,rfl⟩:=ye.1 hc;exact SL hF Ci (hL s hs)) (ye.2 ⟨_,jb (jh (d:=[]) (show i.toNat<L.length by omega)),rfl⟩)
  · rw [PJ];refine qT (fun c hc=>by
     obtain ⟨s,hs,rfl⟩:=ye.1 hc;exact SL hF Ci (hL s hs)) fun y hy=> ?_
    obtain ⟨s,hs,rfl⟩:=ye.1 hy;obtain ⟨i,hi⟩:=GB.1 hs;have:=RZ h2 i (Ua hi);simp only [CI,Ca,lp hi] at this;exact this
 have eF:js g (CI g L fu) F=js g (CI g L fu) ch:=Bf.y4 (eu hC _) (eu hC _) (Dq hC EP) hd.all;refine ⟨F,h4,hd.toChOK,by omega,eF.trans eX,fun j hj=> ?_⟩;rw [<- eX];have s9:(Qe F).Nodup:=(V.Re _ F).nodup_iff.2 hd.nd;refine Oaa (eu hC _) (eu hC _) (Dq hC fun i hi=>EP i (mm.1 (vg hi))) fun hb=> ?_
 have hx:=jb (jh (d:=0) hj);obtain ⟨a,ha⟩:=GB.1 (mm.1 hx);refine hd.idle a (Nd _) (Ua ha) (hb.trans (Dq hC fun i hi=> ?_));obtain ⟨b,Om,aD⟩:=Se.1 hi;obtain ⟨c,hc⟩:=GB.1 (mm.1 (vg hi));refine Se.2 ⟨c,fun e=>Om ?_,hc⟩;subst e;rw [ha] at hc;have e2:(Qe F)[b]?=(Qe F)[j]?:=by rw [aD,jh (d:=0) hj];exact hc.symm
 exact (List.getElem?_inj (Ua aD) s9).1 e2
end
theorem jac (g:Ba) (L:List (List Int)) (fu:Int) (hG:E4 g) (hL:kS L) (hn:L.length<=9223372036854775807):BK (g,L,fu)=some true:=by
 unfold BK C3;obtain ⟨r,hr,EH⟩:=Xad hG;simp only;rw [hr,da];cases r
 · simp only [Ve,cond_true];rw [L7];rfl
 obtain ⟨D,hF⟩:=EH rfl;have hN:=hF.N;obtain ⟨f,hf,hf2⟩:=Kaa fu;simp only [Xl,cond_false];have Ci:f<=1000000:=by omega
 obtain ⟨F,h1,h2,hF2,h3,h4⟩:=YZ hF Ci hL hn;have hup:=BS h2.nd;have Pj:∀ x∈Qe F,0<=x/\x<(L.length:Int):=fun x hx=>h2.r x (mm.1 hx)
 have hle:(Qe F).length<=2000000:=by have:=V.Iv F;show (V.Qe F).length<=_;omega
 have Af:=ZS hF Ci hL;have e7:=y3 (g:=g) (fu:=f) hn (Qe F) Pj hup hle;have hsc:(GC L (Qe F)).length=(Qe F).length:=by unfold GC;rw [Ec]
 have eK:=c8 hL (Qe F);have ec:QJ g (GC L (Qe F)) f=QJ g L f:=by rw [aT,<- h3];exact oac (bab hF Ci hL) fun i=>mm
 have e16:=jW hF Ci (GC L (Qe F)) eK (by omega) (QJ g L f) Af fun i hi=>by
   have e:(GC L (Qe F)).eraseIdx i=GC L ((Qe F).eraseIdx i):=by unfold GC;rw [wg,wg,Zu,List.map_take,List.map_drop]
   rw [e,aT];exact h4 i (by omega)
 have ok:=Af.toCov.ok hF;rw [hf,da,h1,da,e7,da];simp only [qt];rw [FL hF Ci (Kv (by omega) hL),da,DD,FL hF Ci (Kv (by omega) eK),da,ec,Haa hN ok ok,da,decide_eq_true rfl];simp only [Xl,cond_false];rw [e16,da];simp only [qt];rw [L7];rfl
theorem fag (g:Ba) (a:List (List Int)) (fu:Int) (h0:KC maxLen Jw g) (h1:KC maxLen (.slice (.slice (.int .i64))) a) (h2:KC maxLen (.int .i64) fu):BK (g,a,fu)=some true:=
 jac g a fu (WZ (oa _) h0) (b8 (oa _) h1) (by have:=h1.1.1;rw [Wv] at this;exact this)
end Go.U
end
