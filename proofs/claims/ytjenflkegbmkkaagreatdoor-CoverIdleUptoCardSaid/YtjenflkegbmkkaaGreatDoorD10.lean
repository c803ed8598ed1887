/- What these Lean functions compute: plain arithmetic of congruences, the checks of a graph, the values of its registers. -/
import Derived.Test.YtjenflkegbmkkaaGreatDoorD9
set_option linter.unusedVariables false
set_option linter.unusedSimpArgs false
set_option linter.unusedSectionVars false
open Bool renaming and_eq_true→Ia,not_false→Ve,not_true→Yl
open Classical renaming byContradiction→Cf
open Int renaming toNat_natCast→Ca,lt_irrefl→Mb,toNat→ga
open List renaming mem_map→ye,map_append→Xu,range→oa,nodup_append→Ay,mem_append→Sn,mem_of_mem_eraseIdx→vg,length_eraseIdx→GB,mem_eraseIdx_iff_getElem?→Se,mem_of_getElem?→jb,length_singleton→ur,length_take→dc,append_nil→yj,eraseIdx_of_length_le→Ar,length_append→Td,take_length→po,eraseIdx_eq_take_drop_succ→wg,getElem?_eq_getElem→ya,take_of_length_le→Ue,length_drop→Ll,length_map→Ec,length→fa,mem_iff_getElem?→FB
open Nat renaming le_refl→ua,zero_le→Xd
open Option renaming bind_some→da
open Sum renaming elim_inr→ot
section
set_option maxRecDepth 20000
namespace Go.U
open Go
section
variable {g:Ba} (n:Nat) (C:Int->Pa)
def js (g:Ba) (C:Int->Pa) (l:List Int):Pa:=jl g (l.map C)
def vv (g:Ba) (C:Int->Pa) (l:List Int) (i:Nat):Nat:=Kr (C i) (js g C l)
def Vx (g:Ba) (n:Nat) (C:Int->Pa) (l:List Int):Int:=(YL (vv g C l) n).1
def gr (g:Ba) (n:Nat) (C:Int->Pa):Nat->List Int
 |0=>[]
 |k+1=>gr g n C k++[Vx g n C (gr g n C k)]
variable {n C} (hC:∀ i,Bi g (C i))
include hC
theorem Zaa (l:List Int):jM g (l.map C):=fun c hc=>by
 obtain ⟨i,_,rfl⟩:=ye.1 hc;exact hC i
theorem ey (l:List Int):Bi g (js g C l):=jag (Zaa hC l)
theorem rT {l:List Int} {i:Int} (h:i∈l):Bf (C i) (js g C l):=o5 (Zaa hC l) (List.mem_map_of_mem h)
theorem qT {l:List Int} {X:Pa} (h:∀ i∈l,Bf (C i) X):Bf (js g C l) X:=tT (Zaa hC l) fun y hy=>by
 obtain ⟨i,hi,rfl⟩:=ye.1 hy;exact h i hi
theorem Cq {l r:List Int} (h:∀ i∈l,i∈r):Bf (js g C l) (js g C r):=qT hC fun i hi=>rT hC (h i hi)
theorem pac {l r:List Int} (h:∀ i,i∈l↔i∈r):js g C l=js g C r:=Bf.B4 (ey hC l) (ey hC r) (Cq hC fun i=>(h i).1) (Cq hC fun i=>(h i).2)
omit hC in
theorem AM {l:List Int} {i:Int}:js g C (l++[i])=ee (js g C l) (C i):=by unfold js;rw [Xu];exact B0
theorem sM {l:List Int} (h:0<=Vx g n C l):∃ j:Nat,j<n/\Vx g n C l=j/\(j:Int)∉l:=by
 rcases XL (vv g C l) n with ⟨h1,_⟩|⟨j,h1,h2,h3⟩
 · unfold Vx at h;rw [h1] at h;exact absurd h (by decide)
 · refine ⟨j,h1,by unfold Vx;rw [h2],fun hm=> ?_⟩;have:Kr (C j) (js g C l)=0:=wq.2 (rT hC hm);unfold vv at h3;omega
omit hC in
theorem RZ {l:List Int} (h:Vx g n C l<0):∀ i:Nat,i<n->Bf (C i) (js g C l):=fun i hi=>by
 rcases XL (vv g C l) n with ⟨_,h2⟩|⟨j,h1,h2,h3⟩
 · exact wq.1 (h2 i hi)
 · unfold Vx at h;rw [h2] at h;simp only at h;omega
structure ChOK (n:Nat) (l:List Int):Prop where
 nd:l.Nodup
 r:∀ i∈l,0<=i/\i<(n:Int)
omit hC in
theorem ChOK.len {l:List Int} (h:ChOK n l):l.length<=n:=by
 have:=Sv l ((oa n).map fun i:Nat=>(i:Int)) h.nd fun x hx=>by
  obtain ⟨h1,h2⟩:=h.r x hx;exact ye.2 ⟨x.toNat,List.mem_range.2 (by omega),by omega⟩
 simpa using this
theorem dD:∀ k,(∀ i,i<k->0<=Vx g n C (gr g n C i))->ChOK n (gr g n C k)/\(gr g n C k).length=k
 |0,_=>⟨⟨List.nodup_nil,fun i h=>by cases h⟩,rfl⟩
 |k+1,h=>by
  obtain ⟨⟨h1,h2⟩,h3⟩:=dD k fun i hi=>h i (by omega)
  obtain ⟨j,j1,j2,j3⟩:=sM hC (h k (by omega));refine ⟨⟨?_,fun i hi=> ?_⟩,by simp [gr,h3]⟩
  · rw [gr,Ay];exact ⟨h1,by simp,fun a ha b hb=>by simp at hb;subst hb;rw [j2];exact fun e=>j3 (e ▸ ha)⟩
  · rcases Sn.1 hi with hi|hi
    · exact h2 i hi
    · simp at hi;subst hi;rw [j2];omega
theorem X':∃ K,K<=n/\Vx g n C (gr g n C K)<0/\∀ i,i<K->0<=Vx g n C (gr g n C i):=by
 obtain ⟨j,h1,h2,h3⟩:=jw (ok:=fun k=>0<=Vx g n C (gr g n C k)) (n+1) (Cf fun hc=>by
  have Af:∀ i,i<n+1->0<=Vx g n C (gr g n C i):=fun i hi=>Cf fun h=>hc ⟨i,hi,h⟩
  obtain ⟨k1,k2⟩:=dD hC (n+1) Af;have:=k1.len;omega)
 exact ⟨j,by omega,by omega,h3⟩
open Classical in
noncomputable def dst (g:Ba) (C:Int->Pa) (X:Pa) (k:Nat) (l:List Int):List Int:=if Bf X (js g C (l.eraseIdx k)) then l.eraseIdx k else l
noncomputable def dl (g:Ba) (C:Int->Pa) (X:Pa) (ch:List Int):Nat->List Int
 |0=>ch
 |i+1=>dst g C X (ch.length-(i+1)) (dl g C X ch i)
structure bZ (g:Ba) (n:Nat) (C:Int->Pa) (X:Pa) (k:Nat) (l:List Int):Prop extends ChOK n l where
 all:Bf X (js g C l)
 len:k<=l.length
 idle:∀ j,k<=j->j<l.length->¬ Bf X (js g C (l.eraseIdx j))
omit hC in
theorem ChOK.erase {l:List Int} (h:ChOK n l) (k:Nat):ChOK n (l.eraseIdx k):=⟨h.nd.sublist (List.eraseIdx_sublist l k),fun i hi=>h.r i (vg hi)⟩
theorem bZ.next {X:Pa} {k:Nat} {l:List Int} (h:bZ g n C X (k+1) l):bZ g n C X k (dst g C X k l):=by
 have hk:=h.len;unfold dst;split
 · rename_i hs;refine ⟨h.toChOK.erase k,hs,by rw [GB];split<;>omega,fun j hj LP hb=> ?_⟩;rw [GB,if_pos (by omega)] at LP;refine h.idle (j+1) (by omega) (by omega) (hb.trans (Cq hC fun i hi=> ?_));obtain ⟨a,ha,hai⟩:=Se.1 hi;rw [List.getElem?_eraseIdx] at hai;split at hai
   · exact Se.2 ⟨a,by omega,hai⟩
   · exact Se.2 ⟨a+1,by omega,hai⟩
 · rename_i hs;refine ⟨h.toChOK,h.all,by omega,fun j hj LP=> ?_⟩;by_cases e:j=k
   · subst e;exact hs
   · exact h.idle j (by omega) LP
theorem tO {X:Pa} {ch:List Int} (h:ChOK n ch) (hX:Bf X (js g C ch)):∀ i,i<=ch.length->bZ g n C X (ch.length-i) (dl g C X ch i)
 |0,_=>⟨h,hX,ua _,fun j h1 h2=>by simp only [dl] at h2;omega⟩
 |i+1,hi=>bZ.next hC (by have:=tO h hX i (by omega);rwa [show ch.length-i=ch.length-(i+1)+1 by omega] at this)
omit hC in
theorem kG {X:Pa} {ch:List Int}:∀ i,∀ x∈dl g C X ch i,x∈ch
 |0,x,h=>h
 |i+1,x,h=>by
  unfold dl dst at h;split at h
  · exact kG i x (vg h)
  · exact kG i x h
end
end Go.U
end
section
set_option maxRecDepth 20000
namespace Go.U
open Go
def CI (g:Ba) (L:List (List Int)) (fu:Int) (i:Int):Pa:=Ts g (gx L i.toNat []) fu
def idx (n:Nat):List Int:=(oa n).map fun i:Nat=>(i:Int)
theorem JE {n:Nat} {i:Int}:i∈idx n↔0<=i/\i<(n:Int):=by
 unfold idx;rw [ye];exact ⟨fun ⟨j,h,e⟩=>by have:=List.mem_range.1 h;omega,fun h=>⟨i.toNat,List.mem_range.2 (by omega),by omega⟩⟩
theorem O8 (n:Nat):(idx n).Nodup:=List.nodup_range.map _ fun a b h=>by
 intro e;exact h (Int.ofNat.inj e)
theorem xT (n:Nat):idx (n+1)=idx n++[(n:Int)]:=by unfold idx;rw [List.range_succ,Xu];rfl
section
variable {g:Ba} {D:List Int} {L:List (List Int)} {fu:Int} (hF:Ng g D) (Ci:fu<=1000000) (hL:mS L) (hn:L.length<=1048576)
theorem aF (hL:mS L) (i:Nat):(gx L i []).length<=9223372036854775807:=by
 by_cases h:i<L.length
 · exact hL _ (jb (jh (d:=[]) h))
 · rw [vA (by omega)];simp
include hF Ci hL
theorem cab (i:Int):Bi g (CI g L fu i):=PL hF Ci (aF hL _)
include hn
theorem KX:Oa (Np.m ((L,fu),L,nt L.length,g)) (0,[])=some (Qu (CI g L fu) (idx L.length)):=by
 have:=Md (step:=Np.m ((L,fu),L,nt L.length,g)) (n:=L.length) (fun i=>((i:Int),Qu (CI g L fu) (idx i))) (Qu (CI g L fu) (idx L.length)) (by omega) (fun t=>L.length-t.1.toNat) (fun i _=>by simp) (fun i hi=>by
  have h':(i:Int)<(L.length:Int):=by omega
  have w:Ga ((i:Int)+1)=((i+1:Nat):Int):=by rw [Sb (by omega) (by omega)];rfl
  have hs:=Kz (CI g L fu) (i:Int) (idx i) fun h=>by have:=JE.1 h;omega
  simp only [LD.m,Np,nt,h',decide_true,cond_true,Rh hi,Xa,Ca,w];rw [sX hF (aF hL i) Ci,da,xT,<- hs];simp only [CI,Ca]) (by
  simp only [LD.m,Np,nt,Mb,decide_false,cond_false])
 exact this
omit hL hn Ci in
theorem kR (hn:L.length<=1048576) {C:Int->Pa} (hC:∀ i,Bi g (C i)) (lf cl:List Int) (cv:List (Int×Pa)) (hlf:∀ i:Nat,i<L.length->(i:Int)∉lf->vv g C cl i=0):Oa (ak.m (L,nt L.length,g,Qu C lf,cv,cl,(js g C cl).1,(js g C cl).2.1,(js g C cl).2.2)) (-1,0,0)=some (Vx g L.length C cl):=by
 have hN:=hF.N;have:=Md (step:=ak.m (L,nt L.length,g,Qu C lf,cv,cl,(js g C cl).1,(js g C cl).2.1,(js g C cl).2.2)) (n:=L.length) (fun i=>((YL (vv g C cl) i).1,((YL (vv g C cl) i).2:Int),(i:Int))) (Vx g L.length C cl) (by omega) (fun t=>L.length-t.2.2.toNat) (fun i _=>by simp) (fun i hi=>by
  have h':(i:Int)<(L.length:Int):=by omega
  have w:Ga ((i:Int)+1)=((i+1:Nat):Int):=by rw [Sb (by omega) (by omega)];rfl
  simp only [LD.m,ak,nt,h',decide_true,cond_true,gu,w];by_cases hm:(i:Int)∈lf
  · have e:=T_ hN ((hC i).toCov.ok hF) ((ey hC cl).toCov.ok hF);rw [decide_eq_true hm,cond_true,ju C _ _ _ hm,e,da];by_cases hb:(YL (vv g C cl) i).2<vv g C cl i
    · have zd:((YL (vv g C cl) i).2:Int)<(Kr (C i) (js g C cl):Int):=Int.ofNat_lt.2 hb;rw [decide_eq_true zd,cond_true,da,YL,if_pos hb];rfl
    · have zd:¬ ((YL (vv g C cl) i).2:Int)<(Kr (C i) (js g C cl):Int):=fun h=>hb (Int.ofNat_lt.1 h)
      rw [decide_eq_false zd,cond_false,YL,if_neg hb]
  · rw [decide_eq_false hm,cond_false,YL,if_neg (by rw [hlf i hi hm];omega)]) (by
  simp only [LD.m,ak,nt,Mb,decide_false,cond_false];rfl)
 exact this
def lf (g:Ba) (n:Nat) (C:Int->Pa):Nat->List Int
 |0=>idx n
 |k+1=>(lf g n C k).erase (Vx g n C (gr g n C k))
omit hF hn hL Ci in
theorem WJ {n:Nat} {C:Int->Pa}:∀ k,(lf g n C k).Nodup/\∀ i,i∈lf g n C k↔i∈idx n/\i∉gr g n C k
 |0=>⟨O8 n,fun i=>by simp [lf,gr]⟩
 |k+1=>by
  obtain ⟨h1,h2⟩:=WJ k;refine ⟨h1.erase _,fun i=> ?_⟩;rw [lf,h1.mem_erase_iff,h2,gr,Sn,List.mem_singleton];constructor
  · rintro ⟨a,b,c⟩;exact ⟨b,fun h=>h.elim c a⟩
  · rintro ⟨a,b⟩;exact ⟨fun h=>b (.inr h),a,fun h=>b (.inl h)⟩
omit hL Ci hn in
theorem lR (hn:L.length<=1048576) {C:Int->Pa} (hC:∀ i,Bi g (C i)) {K:Nat} (hK:K<=L.length) (h1:Vx g L.length C (gr g L.length C K)<0) (h2:∀ i,i<K->0<=Vx g L.length C (gr g L.length C i)):Oa (Bl.m (L,g)) (Qu C (idx L.length),[],[],(Df g).1,(Df g).2.1,(Df g).2.2)=some (Qu C (gr g L.length C K),gr g L.length C K,(js g C (gr g L.length C K)).1,(js g C (gr g L.length C K)).2.1,(js g C (gr g L.length C K)).2.2):=by
 have hN:=hF.N;have inner:∀ k,Oa (ak.m (L,nt L.length,g,Qu C (lf g L.length C k),Qu C (gr g L.length C k),gr g L.length C k,(js g C (gr g L.length C k)).1,(js g C (gr g L.length C k)).2.1,(js g C (gr g L.length C k)).2.2)) (-1,0,0)=some (Vx g L.length C (gr g L.length C k)):=fun k=>
  kR hF hn hC _ _ _ fun i hi hm=>wq.2 (rT hC (Cf fun h=>hm (((WJ k).2 _).2 ⟨JE.2 (by omega),h⟩)))
 have:=Md (step:=Bl.m (L,g)) (n:=K) (fun k=>(Qu C (lf g L.length C k),Qu C (gr g L.length C k),gr g L.length C k,(js g C (gr g L.length C k)).1,(js g C (gr g L.length C k)).2.1,(js g C (gr g L.length C k)).2.2)) (Qu C (gr g L.length C K),gr g L.length C K,(js g C (gr g L.length C K)).1,(js g C (gr g L.length C K)).2.1,(js g C (gr g L.length C K)).2.2) (by omega) (fun t=>K-t.2.2.1.length) (fun k hk=>by rw [(dD hC k fun i hi=>h2 i (by omega)).2]) (fun k hk=>by
  obtain ⟨ok,hlen⟩:=dD hC k fun i hi=>h2 i (by omega)
  obtain ⟨j,j1,j2,j3⟩:=sM hC (h2 k hk);have hm:(j:Int)∈lf g L.length C k:=((WJ k).2 _).2 ⟨JE.2 (by omega),j3⟩;have d:¬ (j:Int)<0:=by omega
  have i1:=inner k;rw [j2] at i1;have hs:=Kz C (j:Int) (gr g L.length C k) j3;have e:=wL hN ((ey hC (gr g L.length C k)).toCov.ok hF) ((hC j).toCov.ok hF);rw [<- AM] at e;simp only [LD.m,Bl];rw [i1,da,decide_eq_false d,cond_false];refine (Fe (by simp only [Ia,decide_eq_true_eq,ur];omega)).trans ?_;rw [gu,decide_eq_true hm,cond_true,cond_true,ju C _ _ _ hm,e,da,MI,hs];simp only [lf,gr,j2]) (by
  simp only [LD.m,Bl];rw [inner K,da,decide_eq_true h1];rfl)
 exact this
omit hL Ci hn in
theorem iR {C:Int->Pa} (hC:∀ i,Bi g (C i)) (k:Nat) (ch l:List Int) (X:Pa) (FP:∀ x∈l,x∈ch) (hl:l.length<=1048576):Oa (xl.m ((k:Int),nt l.length,g,Qu C ch,l,X)) (0,(Df g).1,(Df g).2.1,(Df g).2.2)=some ((js g C (l.eraseIdx k)).1,(js g C (l.eraseIdx k)).2.1,(js g C (l.eraseIdx k)).2.2):=by
 have hN:=hF.N;have:=Md (step:=xl.m ((k:Int),nt l.length,g,Qu C ch,l,X)) (n:=l.length) (fun i=>((i:Int),(js g C ((l.take i).eraseIdx k)).1,(js g C ((l.take i).eraseIdx k)).2.1,(js g C ((l.take i).eraseIdx k)).2.2)) ((js g C (l.eraseIdx k)).1,(js g C (l.eraseIdx k)).2.1,(js g C (l.eraseIdx k)).2.2) (by omega) (fun t=>l.length-t.1.toNat) (fun i _=>by simp) (fun i hi=>by
  have h':(i:Int)<(l.length:Int):=by omega
  have w:Ga ((i:Int)+1)=((i+1:Nat):Int):=by rw [Sb (by omega) (by omega)];rfl
  have hm:gx l i 0∈ch:=FP _ (jb (jh (d:=0) hi));have hlen:(l.take i).length=i:=by rw [dc];omega
  simp only [LD.m,xl,nt,h',decide_true,cond_true,Rh hi,Xa,Ca,w];by_cases NM:i=k
  · have e:(l.take (i+1)).eraseIdx k=(l.take i).eraseIdx k:=by
     rw [Qg 0 hi,List.eraseIdx_append_of_length_le (by omega),hlen,NM,Nat.sub_self];show List.take k l++[]=_;rw [yj,Ar (by rw [dc];omega)]
    rw [e,decide_eq_true (by rw [NM])];rfl
  · have d:¬ (i:Int)=(k:Int):=by omega
    have e:(l.take (i+1)).eraseIdx k=(l.take i).eraseIdx k++[gx l i 0]:=by
     rw [Qg 0 hi];by_cases nc:k<i
     · rw [List.eraseIdx_append_of_lt_length (by omega)]
     · rw [Ar (by rw [Td,hlen,ur];omega),Ar (by omega)]
    have e2:=wL hN ((ey hC ((l.take i).eraseIdx k)).toCov.ok hF) ((hC (gx l i 0)).toCov.ok hF);rw [<- AM,<- e] at e2;simp only [d,decide_false,Ve,cond_true];have hh:tA (k:= .int .i64) (gx l i (0:Int)) (Qu C ch)=true:=(gu C (gx l i 0) ch).trans (decide_eq_true hm);have hg:Ns (k:= .int .i64) (gx l i (0:Int)) On (Qu C ch)=C (gx l i 0):=ju C (gx l i 0) On ch hm;rw [hh,cond_true,hg,e2];rfl) (by
  simp only [LD.m,xl,nt,Mb,decide_false,cond_false,po])
 exact this
omit hL Ci hn in
theorem jR {n:Nat} (hn:n<=1048576) {C:Int->Pa} (hC:∀ i,Bi g (C i)) (ch:List Int) (D1:ChOK n ch) (X:Pa) (hX:X=js g C ch):Oa (Al.m (g,Qu C ch,X)) (Ga ((ch.length:Int)-1),ch)=some (dl g C X ch ch.length):=by
 have hN:=hF.N;have rK:=D1.len;have hXs:Bi g X:=by rw [hX];exact ey hC ch
 have w0:Ga ((ch.length:Int)-1)=(ch.length:Int)-1:=Sb (by omega) (by omega);have:=Md (step:=Al.m (g,Qu C ch,X)) (n:=ch.length) (fun i=>((ch.length:Int)-1-i,dl g C X ch i)) (dl g C X ch ch.length) (by omega) (fun t=>(t.1+1).toNat) (fun i hi=>by simp only;omega) (fun i hi=>by
  have ok:=tO hC D1 (X:=X) (by rw [hX];exact .refl _) i (by omega);have hlen:=ok.len;have E5:=ok.toChOK.len;obtain ⟨k,hk⟩:∃ k:Nat,ch.length-(i+1)=k:=⟨_,rfl⟩;have hki:(ch.length:Int)-1-i=(k:Int):=by omega
  have h0:(0:Int)<=(k:Int):=by omega
  have w1:Ga ((k:Int)+1)=((k+1:Nat):Int):=by rw [Sb (by omega) (by omega)];rfl
  have w2:Ga ((k:Int)-1)=(ch.length:Int)-1-((i+1:Nat):Int):=by rw [Sb (by omega) (by omega)];omega
  have e28:=iR hF hC k ch (dl g C X ch i) X (kG i) (by omega);obtain ⟨r,e24,h24⟩:=zaa hN (hXs.toCov.ok hF) ((ey hC ((dl g C X ch i).eraseIdx k)).toCov.ok hF);simp only [LD.m,Al,hki,decide_eq_true h0,cond_true,w1,w2];rw [aG hF,da,e28,da,e24,da,dl,hk,dst];cases r
  · have vH:¬ Bf X (js g C ((dl g C X ch i).eraseIdx k)):=fun h=>by have:=h24.2 ⟨h.toLeC,h.e⟩;cases this
    rw [if_neg vH];rfl
  · have hs:Bf X (js g C ((dl g C X ch i).eraseIdx k)):=⟨(h24.1 rfl).1,(h24.1 rfl).2⟩;have e45:wD ((k:Int),((k+1:Nat):Int),dl g C X ch i)=some ((dl g C X ch i).eraseIdx k):=by
     unfold wD;refine (Fe (by simp only [Ia,decide_eq_true_eq];omega)).trans ?_;rw [wg,Ca,Ca]
    rw [if_pos hs,cond_true,e45];rfl) (by
  have d:¬ (0:Int)<=(ch.length:Int)-1-(ch.length:Int):=by omega
  simp only [LD.m,Al,decide_eq_false d,cond_false])
 rw [w0]
 simpa [dl] using this
theorem Aaa:∃ K,K<=L.length/\Vx g L.length (CI g L fu) (gr g L.length (CI g L fu) K)<0/\(∀ i,i<K->0<=Vx g L.length (CI g L fu) (gr g L.length (CI g L fu) i))/\Jx (g,L,fu)=some (Qe (dl g (CI g L fu) (js g (CI g L fu) (gr g L.length (CI g L fu) K)) (gr g L.length (CI g L fu) K) (gr g L.length (CI g L fu) K).length)):=by
 have hC:=cab (L:=L) hF Ci hL;obtain ⟨K,h1,h2,h3⟩:=X' (n:=L.length) hC;refine ⟨K,h1,h2,h3,?_⟩;obtain ⟨ok,hlen⟩:=dD hC K h3;have e3:=KX hF Ci hL hn;have ZA:=lR hF hn hC h1 h2 h3;have e24:=jR hF hn hC (gr g L.length (CI g L fu) K) ok (js g (CI g L fu) (gr g L.length (CI g L fu) K)) rfl;have hd:=(tO hC ok (X:=js g (CI g L fu) (gr g L.length (CI g L fu) K)) (.refl _) _ (ua _)).toChOK.len;unfold Jx bO;simp only;rw [e3,da,aG hF,da,ZA,da];simp only [nt];rw [e24,da];unfold yI;rw [Fe (by rw [decide_eq_true_eq];omega)];rfl
end
end Go.U
end
section
set_option maxRecDepth 20000
namespace Go.U
open Go
theorem om {l:List Int} {x:Int}:x∈Qe l↔x∈l:=(V.Re _ l).mem_iff
theorem DS {l:List Int} (h:l.Nodup):(Qe l).Pairwise fun a b=>a<b:=by
 have h1:=V.Yi (lt:=fun a b:Int=>decide (a<b)) (fun a b c h1 h2=>by have:=of_decide_eq_false h1;have:=of_decide_eq_false h2;exact decide_eq_false (by omega)) (fun a b h=>by have:=of_decide_eq_true h;exact decide_eq_false (by omega)) l;have h2:(Qe l).Nodup:=(V.Re _ l).nodup_iff.2 h;exact (List.pairwise_and_iff.2 ⟨h1,h2⟩).imp fun ⟨a,b⟩=>by have:=of_decide_eq_false a;omega
theorem Nad {l:List Int} (h:l.Pairwise fun a b=>a<b) {i j:Nat} (Jy:i<j) (hj:j<l.length):gx l i 0<gx l j 0:=by
 have:=List.pairwise_iff_getElem.1 h i j (by omega) hj Jy
 rwa [kp (ya (show i<l.length by omega)),kp (ya hj)]
theorem wai {α:Type} {l:List α} {i:Nat}:Vi 0 (ga (i:Int)-0) l=l.take i:=by rw [Ca];rfl
theorem vai {α:Type} {l:List α} {i:Nat} (h:i<l.length):Vi (ga ((i+1:Nat):Int)) (ga (l.length:Int)-ga ((i+1:Nat):Int)) l=l.drop (i+1):=by
 rw [Ca,Ca];show (l.drop (i+1)).take _=_;rw [Ue (by rw [Ll];omega)]
section
variable {g:Ba} {D:List Int} {L:List (List Int)} {fu:Int} (hF:Ng g D) (Ci:fu<=1000000) (hL:mS L) (hn:L.length<=1048576)
def GC (L:List (List Int)) (l:List Int):List (List Int):=l.map fun x=>gx L x.toNat []
theorem eT (l:List Int):OJ g (GC L l) fu=js g (CI g L fu) l:=by rw [NJ];unfold GC js;rw [List.map_map];rfl
theorem c8 (hL:mS L) (l:List Int):mS (GC L l):=fun s hs=>by
 obtain ⟨x,_,rfl⟩:=ye.1 hs;exact aF hL _
theorem B3 (hn:L.length<=1048576) (l:List Int) (h:∀ x∈l,0<=x/\x<(L.length:Int)) (hup:l.Pairwise fun a b=>a<b) (hl:l.length<=1048576):Oa (Cx.m (L,fu,l,g)) (0,[])=some (.inr (GC L l)):=by
 have:=Md (step:=Cx.m (L,fu,l,g)) (n:=l.length) (fun i=>((i:Int),GC L (l.take i))) (.inr (GC L l)) (by omega) (fun t=>l.length-t.1.toNat) (fun i _=>by simp) (fun i hi=>by
  have h':(i:Int)<(l.length:Int):=by omega
  have w:Ga ((i:Int)+1)=((i+1:Nat):Int):=by rw [Sb (by omega) (by omega)];rfl
  obtain ⟨r1,r2⟩:=h _ (jb (jh (d:=0) hi));have d1:¬ gx l i 0<0:=by omega
  have d2:¬ (L.length:Int)<=gx l i 0:=by omega
  have hb:(GC L (l.take i)).length=i:=by unfold GC;rw [Ec,dc];omega
  have e:GC L (l.take (i+1))=GC L (l.take i)++[gx L (gx l i 0).toNat []]:=by rw [Qg 0 hi];unfold GC;rw [Xu];rfl
  have b:(decide (((GC L (l.take i)).length+fa ([gx L (gx l i 0).toNat []]:List (List Int))) * 24<=70368744177664)&&decide ((GC L (l.take i)).length+fa ([gx L (gx l i 0).toNat []]:List (List Int))<9223372036854775808))=true:=by
    simp only [Ia,decide_eq_true_eq,ur];omega
  simp only [LD.m,Cx,nt,h',decide_true,cond_true,Rh hi,Xa,Ca,w,d1,d2,decide_false,cond_false,Bm r1 r2,e];by_cases h0:(0:Int)<(i:Int)
  · have w2:Ga ((i:Int)-1)=((i-1:Nat):Int):=by rw [Sb (by omega) (by omega)];omega
    have nc:=Nad hup (show i-1<i by omega) hi;have d3:¬ gx l i 0<=gx l (i-1) 0:=by omega
    simp only [h0,decide_true,cond_true,w2,Rh (show i-1<l.length by omega),Xa,Ca,d3,decide_false,cond_false];exact Fe b
  · simp only [h0,decide_false,cond_false];exact Fe b) (by
  simp only [LD.m,Cx,nt,Mb,decide_false,cond_false,po])
 exact this
include hF Ci
theorem kW (ch:List (List Int)) (D1:mS ch) (rK:ch.length<=1048576) (X:Pa) (hX:Bi g X) (nc:∀ i,i<ch.length->CB (OJ g (ch.eraseIdx i) fu)<CB X):Oa (yp.m (fu,g,ch,X)) 0=some (.inr ()):=by
 have hN:=hF.N;have:=Md (step:=yp.m (fu,g,ch,X)) (n:=ch.length) (fun i=>(i:Int)) (.inr ()) (by omega) (fun t=>ch.length-t.toNat) (fun i _=>by simp) (fun i hi=>by
  have h':(i:Int)<(ch.length:Int):=by omega
  have w:Ga ((i:Int)+1)=((i+1:Nat):Int):=by rw [Sb (by omega) (by omega)];rfl
  have hr:mS (ch.eraseIdx i):=fun s hs=>D1 s (vg hs)
  have ZC:(ch.eraseIdx i).length<=1048576:=by rw [GB];split<;>omega
  have e1:=DL hF Ci (Iv (by omega) hr);have e2:=TX hN ((cT hF Ci hr).toCov.ok hF);have e3:=TX hN (hX.toCov.ok hF);have d:¬ (CB X:Int)<=(CB (OJ g (ch.eraseIdx i) fu):Int):=by have:=nc i hi;omega
  simp only [LD.m,yp,nt,h',decide_true,cond_true,w,wai,vai hi];have l1:(ch.take i).length<=1048576:=by rw [dc];omega
  have l2:(ch.drop (i+1)).length<=1048576:=by rw [Ll];omega
  refine (Fe (b:=decide ((0:Int)<=0)&&decide ((0:Int)<=i)&&decide ((i:Int)<=(ch.length:Int))) (by simp only [Ia,decide_eq_true_eq];omega)).trans ?_;refine (Fe (by simp only [Ia,decide_eq_true_eq];omega)).trans ?_;refine (Fe (b:=decide ((0:Int)<=((i+1:Nat):Int))&&decide (((i+1:Nat):Int)<=(ch.length:Int))&&decide ((ch.length:Int)<=(ch.length:Int))) (by simp only [Ia,decide_eq_true_eq];omega)).trans ?_;refine (Fe (by simp only [Ia,decide_eq_true_eq];omega)).trans ?_;rw [<- wg,ED,e1,da,e2,da,e3,da,decide_eq_false d];rfl) (by
  simp only [LD.m,yp,nt,Mb,decide_false,cond_false])
 exact this
include hL hn
theorem YZ:∃ F:List Int,Jx (g,L,fu)=some (Qe F)/\ChOK L.length F/\js g (CI g L fu) F=OJ g L fu/\∀ j,j<(Qe F).length->CB (js g (CI g L fu) ((Qe F).eraseIdx j))<CB (OJ g L fu):=by
 have hC:=cab (L:=L) hF Ci hL;obtain ⟨K,h1,h2,h3,h4⟩:=Aaa hF Ci hL hn;obtain ⟨ok,hlen⟩:=dD hC K h3;generalize gr g L.length (CI g L fu) K=ch at *
 have hd:=tO hC ok (X:=js g (CI g L fu) ch) (.refl _) _ (ua _);rw [Nat.sub_self] at hd;have FP:=kG (g:=g) (C:=CI g L fu) (X:=js g (CI g L fu) ch) (ch:=ch) ch.length;generalize dl g (CI g L fu) (js g (CI g L fu) ch) ch ch.length=F at *
 have Af:=cT hF Ci hL;have eX:js g (CI g L fu) ch=OJ g L fu:=by
  refine Bf.B4 (ey hC _) Af (qT hC fun i hi=> ?_) ?_
  · rw [NJ];obtain ⟨r1,r2⟩:=ok.r i hi;exact o5 (fun c hc=>by
     obtain ⟨s,hs,rfl⟩:=ye.1 hc;exact PL hF Ci (hL s hs)) (ye.2 ⟨_,jb (jh (d:=[]) (show i.toNat<L.length by omega)),rfl⟩)
  · rw [NJ];refine tT (fun c hc=>by
     obtain ⟨s,hs,rfl⟩:=ye.1 hc;exact PL hF Ci (hL s hs)) fun y hy=> ?_
    obtain ⟨s,hs,rfl⟩:=ye.1 hy;obtain ⟨i,hi⟩:=FB.1 hs;have:=RZ h2 i (Ua hi);simp only [CI,Ca,kp hi] at this;exact this
 have eF:js g (CI g L fu) F=js g (CI g L fu) ch:=Bf.B4 (ey hC _) (ey hC _) (Cq hC FP) hd.all;refine ⟨F,h4,hd.toChOK,eF.trans eX,fun j hj=> ?_⟩;rw [<- eX];have s9:(Qe F).Nodup:=(V.Re _ F).nodup_iff.2 hd.nd;refine Oaa (ey hC _) (ey hC _) (Cq hC fun i hi=>FP i (om.1 (vg hi))) fun hb=> ?_
 have hx:=jb (jh (d:=0) hj);obtain ⟨a,ha⟩:=FB.1 (om.1 hx);refine hd.idle a (Xd _) (Ua ha) (hb.trans (Cq hC fun i hi=> ?_));obtain ⟨b,Pm,bD⟩:=Se.1 hi;obtain ⟨c,hc⟩:=FB.1 (om.1 (vg hi));refine Se.2 ⟨c,fun e=>Pm ?_,hc⟩;subst e;rw [ha] at hc;have e2:(Qe F)[b]?=(Qe F)[j]?:=by rw [bD,jh (d:=0) hj];exact hc.symm
 exact (List.getElem?_inj (Ua bD) s9).1 e2
end
theorem kac (g:Ba) (L:List (List Int)) (fu:Int) (hG:F4 g) (hL:mS L) (hn:L.length<=1048576):zK (g,L,fu)=some true:=by
 unfold zK D3;obtain ⟨r,hr,CH⟩:=Yad hG;simp only;rw [hr,da];cases r
 · simp only [Ve,cond_true];rw [L7];rfl
 obtain ⟨D,hF⟩:=CH rfl;have hN:=hF.N;obtain ⟨f,hf,hf2⟩:=Kaa fu;simp only [Yl,cond_false];have Ci:f<=1000000:=by omega
 obtain ⟨F,h1,h2,h3,h4⟩:=YZ hF Ci hL hn;have hup:=DS h2.nd;have Qj:∀ x∈Qe F,0<=x/\x<(L.length:Int):=fun x hx=>h2.r x (om.1 hx)
 have hle:(Qe F).length<=1048576:=by have:=V.Ev F;have:=h2.len;show (V.Qe F).length<=_;omega
 have Af:=cT hF Ci hL;have e7:=B3 (g:=g) (fu:=f) hn (Qe F) Qj hup hle;have hsc:(GC L (Qe F)).length=(Qe F).length:=by unfold GC;rw [Ec]
 have cK:=c8 hL (Qe F);have ec:OJ g (GC L (Qe F)) f=OJ g L f:=by rw [eT,<- h3];exact pac (cab hF Ci hL) fun i=>om
 have e16:=kW hF Ci (GC L (Qe F)) cK (by omega) (OJ g L f) Af fun i hi=>by
   have e:(GC L (Qe F)).eraseIdx i=GC L ((Qe F).eraseIdx i):=by unfold GC;rw [wg,wg,Xu,List.map_take,List.map_drop]
   rw [e,eT];exact h4 i (by omega)
 have ok:=Af.toCov.ok hF;rw [hf,da,h1,da,e7,da];simp only [ot];rw [DL hF Ci (Iv (by omega) hL),da,ED,DL hF Ci (Iv (by omega) cK),da,ec,Haa hN ok ok,da,decide_eq_true rfl];simp only [Yl,cond_false];rw [e16,da];simp only [ot];rw [L7];rfl
theorem fag (g:Ba) (a:List (List Int)) (fu:Int) (h0:KC 1048576 Gw g) (h1:KC 1048576 (.slice (.slice (.int .i64))) a) (h2:KC 1048576 (.int .i64) fu):zK (g,a,fu)=some true:=
 kac g a fu (WZ (by decide) h0) (b8 (by decide) h1) h1.1.1
end Go.U
end
