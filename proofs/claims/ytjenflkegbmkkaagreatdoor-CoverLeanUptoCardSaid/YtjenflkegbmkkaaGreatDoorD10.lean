/- What these Lean functions compute: plain arithmetic of congruences, the checks of a graph, the values of its registers. -/
import Derived.Test.YtjenflkegbmkkaaGreatDoorD9
set_option linter.unusedVariables false
set_option linter.unusedSimpArgs false
set_option linter.unusedSectionVars false
open Bool renaming and_eq_true→Na,not_false→we
open Classical renaming byContradiction→Lf
open Int renaming toNat_natCast→Ca,lt_irrefl→Pb
open List renaming mem_map→bj,range→ua,nodup_append→dA,mem_append→Kk,length_eraseIdx→rD,mem_eraseIdx_iff_getElem?→Ap,mem_of_getElem?→Db,length_singleton→Ve,length_take→Nb,append_nil→zi,eraseIdx_of_length_le→It,length_append→qd,take_length→Hf
open Nat renaming zero_le→fe,le_refl→va,le_trans→Gb
open Option renaming bind_some→ga
section
set_option maxRecDepth 20000
namespace Go.U
open Go
section
variable {g:Ga}(n:Nat)(C:Int->Pa)
def js(g:Ga)(C:Int->Pa)(l:List Int):Pa:=jl g (l.map C)
def vv(g:Ga)(C:Int->Pa)(l:List Int)(i:Nat):Nat:=Ep (C i) (js g C l)
def Yr(g:Ga)(n:Nat)(C:Int->Pa)(l:List Int):Int:=(mD (vv g C l) n).1
def gr(g:Ga)(n:Nat)(C:Int->Pa):Nat->List Int
 |0=>[]
 |k+1=>gr g n C k++[Yr g n C (gr g n C k)]
variable {n C}(hC:∀i,Jk g (C i))
include hC
theorem Eae(l:List Int):BO g (l.map C):=fun c hc=>by
 obtain⟨i,_,rfl⟩:=bj.1 hc;exact hC i
theorem Nt(l:List Int):Jk g (js g C l):=bak (Eae hC l)
theorem vW{l:List Int}{i:Int}(h:i∈l):Xf (C i) (js g C l):=Saf (Eae hC l) (List.mem_map_of_mem h)
theorem Qaa{l:List Int}{X:Pa}(h:∀i∈l,Xf (C i) X):Xf (js g C l) X:=Raa (Eae hC l) fun y hy=>by
 obtain⟨i,hi,rfl⟩:=bj.1 hy;exact h i hi
theorem mA{l r:List Int}(h:∀i∈l,i∈r):Xf (js g C l) (js g C r):=Qaa hC fun i hi=>vW hC (h i hi)
theorem Raf{l r:List Int}(h:∀i,i∈l↔i∈r):js g C l=js g C r:=Xf.zai (Nt hC l) (Nt hC r) (mA hC fun i=>(h i).1) (mA hC fun i=>(h i).2)
omit hC in
theorem Nv{l:List Int}{i:Int}:js g C (l++[i])=vf (js g C l) (C i):=by unfold js;rw[List.map_append];exact X5
theorem NG{l:List Int}(h:0<=Yr g n C l):∃j:Nat,j<n/\Yr g n C l=j/\(j:Int)∉l:=by
 rcases nO (vv g C l) n with⟨h1,_⟩|⟨j,h1,h2,h3⟩
 ·unfold Yr at h;rw[h1]at h;exact absurd h (by decide)
 ·refine⟨j,h1,by unfold Yr;rw[h2],fun hm=> ?_⟩;have:Ep (C j) (js g C l)=0:=ZE.2 (vW hC hm);unfold vv at h3;omega
omit hC in
structure ChOK(n:Nat)(l:List Int):Prop where
 nd:l.Nodup
 r:∀i∈l,0<=i/\i<(n:Int)
omit hC in
theorem ChOK.len{l:List Int}(h:ChOK n l):l.length<=n:=by
 have:=As l ((ua n).map fun i:Nat=>(i:Int)) h.nd fun x hx=>by
  obtain⟨h1,h2⟩:=h.r x hx;exact bj.2 ⟨x.toNat,List.mem_range.2 (by omega),by omega⟩
 simpa using this
theorem Wv:∀k,(∀i,i<k->0<=Yr g n C (gr g n C i))->ChOK n (gr g n C k)/\(gr g n C k).length=k
 |0,_=>⟨⟨List.nodup_nil,fun i h=>by cases h⟩,rfl⟩
 |k+1,h=>by
  obtain⟨⟨h1,h2⟩,h3⟩:=Wv k fun i hi=>h i (by omega)
  obtain⟨j,j1,j2,j3⟩:=NG hC (h k (by omega));refine⟨⟨?_,fun i hi=> ?_⟩,by simp[gr,h3]⟩
  ·rw[gr,dA];exact⟨h1,by simp,fun a ha b hb=>by simp at hb;subst hb;rw[j2];exact fun e=>j3 (e ▸ ha)⟩
  ·rcases Kk.1 hi with hi|hi
   ·exact h2 i hi
   ·simp at hi;subst hi;rw[j2];omega
theorem jX:∀k,(∀i,i<k->0<=Yr g n C (gr g n C i))->k<=AI (js g C (gr g n C k))
 |0,_=>fe _
 |k+1,h=>by
  have ih:=jX k fun i hi=>h i (by omega)
  rw[gr,Nv,pL (Nt hC _).toCov (hC _).toCov];rcases nO (vv g C (gr g n C k)) n with⟨h1,_⟩|⟨j,h1,h2,h3⟩
  ·have:=h k (by omega);unfold Yr at this;rw[h1]at this;exact absurd this (by decide)
  ·have e:Yr g n C (gr g n C k)=(j:Int):=by unfold Yr;rw[h2]
   rw[e];unfold vv at h3;omega
theorem aac:∃K,K<=n/\Yr g n C (gr g n C K)<0/\∀i,i<K->0<=Yr g n C (gr g n C i):=by
 obtain⟨j,h1,h2,h3⟩:=gy (ok:=fun k=>0<=Yr g n C (gr g n C k)) (n+1) (Lf fun hc=>by
  have gg:∀i,i<n+1->0<=Yr g n C (gr g n C i):=fun i hi=>Lf fun h=>hc ⟨i,hi,h⟩
  obtain⟨k1,k2⟩:=Wv hC (n+1) gg;have:=k1.len;omega)
 exact⟨j,by omega,by omega,h3⟩
open Classical in
noncomputable def dst(g:Ga)(C:Int->Pa)(X:Pa)(k:Nat)(l:List Int):List Int:=if Xf X (js g C (l.eraseIdx k))then l.eraseIdx k else l
noncomputable def dl(g:Ga)(C:Int->Pa)(X:Pa)(ch:List Int):Nat->List Int
 |0=>ch
 |i+1=>dst g C X (ch.length-(i+1)) (dl g C X ch i)
structure o4(g:Ga)(n:Nat)(C:Int->Pa)(X:Pa)(k:Nat)(l:List Int):Prop extends ChOK n l where
 all:Xf X (js g C l)
 len:k<=l.length
 idle:∀j,k<=j->j<l.length->¬Xf X (js g C (l.eraseIdx j))
omit hC in
theorem ChOK.erase{l:List Int}(h:ChOK n l)(k:Nat):ChOK n (l.eraseIdx k):=⟨h.nd.sublist (List.eraseIdx_sublist l k),fun i hi=>h.r i (List.mem_of_mem_eraseIdx hi)⟩
theorem o4.next{X:Pa}{k:Nat}{l:List Int}(h:o4 g n C X (k+1) l):o4 g n C X k (dst g C X k l):=by
 have hk:=h.len;unfold dst;split
 ·rename_i hs;refine⟨h.toChOK.erase k,hs,by rw[rD];split<;>omega,fun j hj zS hb=> ?_⟩;rw[rD,if_pos (by omega)]at zS;refine h.idle (j+1) (by omega) (by omega) (hb.trans (mA hC fun i hi=> ?_));obtain⟨a,ha,hai⟩:=Ap.1 hi;rw[List.getElem?_eraseIdx]at hai;split at hai
  ·exact Ap.2 ⟨a,by omega,hai⟩
  ·exact Ap.2 ⟨a+1,by omega,hai⟩
 ·rename_i hs;refine⟨h.toChOK,h.all,by omega,fun j hj zS=> ?_⟩;by_cases e:j=k
  ·subst e;exact hs
  ·exact h.idle j (by omega) zS
theorem aR{X:Pa}{ch:List Int}(h:ChOK n ch)(hX:Xf X (js g C ch)):∀i,i<=ch.length->o4 g n C X (ch.length-i) (dl g C X ch i)
 |0,_=>⟨h,hX,va _,fun j h1 h2=>by simp only[dl]at h2;omega⟩
 |i+1,hi=>o4.next hC (by have:=aR h hX i (by omega);rwa [show ch.length-i=ch.length-(i+1)+1 by omega]at this)
omit hC in
theorem uI{X:Pa}{ch:List Int}:∀i,(dl g C X ch i).length<=ch.length
 |0=>va _
 |i+1=>by
  have:=uI (X:=X) (ch:=ch) i;unfold dl dst;split
  ·rw[rD];split<;>omega
  ·exact this
omit hC in
theorem tI{X:Pa}{ch:List Int}:∀i,∀x∈dl g C X ch i,x∈ch
 |0,x,h=>h
 |i+1,x,h=>by
  unfold dl dst at h;split at h
  ·exact tI i x (List.mem_of_mem_eraseIdx h)
  ·exact tI i x h
end
end Go.U
end
section
set_option maxRecDepth 20000
namespace Go.U
open Go
def CI(g:Ga)(L:List (List Int))(fu:Int)(i:Int):Pa:=MC g (gx L i.toNat []) fu
def idx(n:Nat):List Int:=(ua n).map fun i:Nat=>(i:Int)
theorem Fs{n:Nat}{i:Int}:i∈idx n↔0<=i/\i<(n:Int):=by
 unfold idx;rw[bj];exact⟨fun⟨j,h,e⟩=>by have:=List.mem_range.1 h;omega,fun h=>⟨i.toNat,List.mem_range.2 (by omega),by omega⟩⟩
theorem Taa(n:Nat):(idx n).Nodup:=List.nodup_range.map _ fun a b h=>by
 intro e;exact h (Int.ofNat.inj e)
theorem Pv(n:Nat):idx (n+1)=idx n++[(n:Int)]:=by unfold idx;rw[List.range_succ,List.map_append];rfl
section
variable {g:Ga}{D:List Int}{L:List (List Int)}{fu:Int}(hF:Gf g D)(vi:fu<=1000000)(hL:ShL L)(hn:L.length<=9223372036854775807)
theorem fH(hL:ShL L)(i:Nat):(gx L i []).length<=9223372036854775807:=by
 by_cases h:i<L.length
 ·exact hL _ (Db (Li (d:=[]) h))
 ·rw[VB (by omega)];simp
include hF vi hL
theorem AO(i:Int):Jk g (CI g L fu i):=rae hF vi (fH hL _)
include hn
theorem W0:Ia (br.m ((L,fu),L,nt L.length,g)) (0,[])=some (Tw (CI g L fu) (idx L.length)):=by
 have:=Bc (step:=br.m ((L,fu),L,nt L.length,g)) (n:=L.length) (fun i=>((i:Int),Tw (CI g L fu) (idx i))) (Tw (CI g L fu) (idx L.length)) (by omega) (fun t=>L.length-t.1.toNat) (fun i _=>by simp) (fun i hi=>by
  have h':(i:Int)<(L.length:Int):=by omega
  have w:Ea ((i:Int)+1)=((i+1:Nat):Int):=by rw[Lb (by omega) (by omega)];rfl
  have hs:=fB (CI g L fu) (i:Int) (idx i) fun h=>by have:=Fs.1 h;omega
  simp only[LD.m,br,nt,h',decide_true,cond_true,ag hi,Ma,Ca,w];rw[lad hF (fH hL i) vi,ga,Pv,<- hs];simp only[CI,Ca]) (by
  simp only[LD.m,br,nt,Pb,decide_false,cond_false])
 exact this
omit hL hn vi in
theorem jU(hn:L.length<=9223372036854775807){C:Int->Pa}(hC:∀i,Jk g (C i))(lf cl:List Int)(cv:List (Int×Pa))(hlf:∀i:Nat,i<L.length->(i:Int)∉lf->vv g C cl i=0):Ia (Dk.m (L,nt L.length,g,Tw C lf,cv,cl,(js g C cl).1,(js g C cl).2.1,(js g C cl).2.2)) (-1,0,0)=some (Yr g L.length C cl):=by
 have hN:=hF.N;have:=Bc (step:=Dk.m (L,nt L.length,g,Tw C lf,cv,cl,(js g C cl).1,(js g C cl).2.1,(js g C cl).2.2)) (n:=L.length) (fun i=>((mD (vv g C cl) i).1,((mD (vv g C cl) i).2:Int),(i:Int))) (Yr g L.length C cl) (by omega) (fun t=>L.length-t.2.2.toNat) (fun i _=>by simp) (fun i hi=>by
  have h':(i:Int)<(L.length:Int):=by omega
  have w:Ea ((i:Int)+1)=((i+1:Nat):Int):=by rw[Lb (by omega) (by omega)];rfl
  simp only[LD.m,Dk,nt,h',decide_true,cond_true,Uv,w];by_cases hm:(i:Int)∈lf
  ·have e:=fad hN ((hC i).toCov.ok hF) ((Nt hC cl).toCov.ok hF);rw[decide_eq_true hm,cond_true,Xv C _ _ _ hm,e,ga];by_cases hb:(mD (vv g C cl) i).2<vv g C cl i
   ·have ud:((mD (vv g C cl) i).2:Int)<(Ep (C i) (js g C cl):Int):=Int.ofNat_lt.2 hb;rw[decide_eq_true ud,cond_true,ga,mD,if_pos hb];rfl
   ·have ud:¬((mD (vv g C cl) i).2:Int)<(Ep (C i) (js g C cl):Int):=fun h=>hb (Int.ofNat_lt.1 h)
    rw[decide_eq_false ud,cond_false,mD,if_neg hb]
  ·rw[decide_eq_false hm,cond_false,mD,if_neg (by rw[hlf i hi hm];omega)]) (by
  simp only[LD.m,Dk,nt,Pb,decide_false,cond_false];rfl)
 exact this
def lf(g:Ga)(n:Nat)(C:Int->Pa):Nat->List Int
 |0=>idx n
 |k+1=>(lf g n C k).erase (Yr g n C (gr g n C k))
omit hF hn hL vi in
theorem yM{n:Nat}{C:Int->Pa}:∀k,(lf g n C k).Nodup/\∀i,i∈lf g n C k↔i∈idx n/\i∉gr g n C k
 |0=>⟨Taa n,fun i=>by simp[lf,gr]⟩
 |k+1=>by
  obtain⟨h1,h2⟩:=yM k;refine⟨h1.erase _,fun i=> ?_⟩;rw[lf,h1.mem_erase_iff,h2,gr,Kk,List.mem_singleton];constructor
  ·rintro⟨a,b,c⟩;exact⟨b,fun h=>h.elim c a⟩
  ·rintro⟨a,b⟩;exact⟨fun h=>b (.inr h),a,fun h=>b (.inl h)⟩
omit hL vi hn in
theorem kU(hn:L.length<=9223372036854775807){C:Int->Pa}(hC:∀i,Jk g (C i)){K:Nat}(hK:K<=L.length)(hK2:K<=2000000)(h1:Yr g L.length C (gr g L.length C K)<0)(h2:∀i,i<K->0<=Yr g L.length C (gr g L.length C i)):Ia (Im.m (L,g)) (Tw C (idx L.length),[],[],(oe g).1,(oe g).2.1,(oe g).2.2)=some (Tw C (gr g L.length C K),gr g L.length C K,(js g C (gr g L.length C K)).1,(js g C (gr g L.length C K)).2.1,(js g C (gr g L.length C K)).2.2):=by
 have hN:=hF.N;have inner:∀k,Ia (Dk.m (L,nt L.length,g,Tw C (lf g L.length C k),Tw C (gr g L.length C k),gr g L.length C k,(js g C (gr g L.length C k)).1,(js g C (gr g L.length C k)).2.1,(js g C (gr g L.length C k)).2.2)) (-1,0,0)=some (Yr g L.length C (gr g L.length C k)):=fun k=>
  jU hF hn hC _ _ _ fun i hi hm=>ZE.2 (vW hC (Lf fun h=>hm (((yM k).2 _).2 ⟨Fs.2 (by omega),h⟩)))
 have:=Bc (step:=Im.m (L,g)) (n:=K) (fun k=>(Tw C (lf g L.length C k),Tw C (gr g L.length C k),gr g L.length C k,(js g C (gr g L.length C k)).1,(js g C (gr g L.length C k)).2.1,(js g C (gr g L.length C k)).2.2)) (Tw C (gr g L.length C K),gr g L.length C K,(js g C (gr g L.length C K)).1,(js g C (gr g L.length C K)).2.1,(js g C (gr g L.length C K)).2.2) (by omega) (fun t=>K-t.2.2.1.length) (fun k hk=>by rw[(Wv hC k fun i hi=>h2 i (by omega)).2]) (fun k hk=>by
  obtain⟨ok,hlen⟩:=Wv hC k fun i hi=>h2 i (by omega)
  obtain⟨j,j1,j2,j3⟩:=NG hC (h2 k hk);have hm:(j:Int)∈lf g L.length C k:=((yM k).2 _).2 ⟨Fs.2 (by omega),j3⟩;have d:¬(j:Int)<0:=by omega
  have i1:=inner k;rw[j2]at i1;have hs:=fB C (j:Int) (gr g L.length C k) j3;have e:=R0 hN ((Nt hC (gr g L.length C k)).toCov.ok hF) ((hC j).toCov.ok hF);rw[<- Nv]at e;simp only[LD.m,Im];rw[i1,ga,decide_eq_false d,cond_false];refine(Sd (by simp only[Na,decide_eq_true_eq,Ve];omega)).trans ?_;rw[Uv,decide_eq_true hm,cond_true,cond_true,Xv C _ _ _ hm,e,ga,eL,hs];simp only[lf,gr,j2]) (by
  simp only[LD.m,Im];rw[inner K,ga,decide_eq_true h1];rfl)
 exact this
omit hL vi hn in
theorem hU{C:Int->Pa}(hC:∀i,Jk g (C i))(k:Nat)(ch l:List Int)(X:Pa)(EW:∀x∈l,x∈ch)(hl:l.length<=2000000):Ia (Fm.m ((k:Int),nt l.length,g,Tw C ch,l,X)) (0,(oe g).1,(oe g).2.1,(oe g).2.2)=some ((js g C (l.eraseIdx k)).1,(js g C (l.eraseIdx k)).2.1,(js g C (l.eraseIdx k)).2.2):=by
 have hN:=hF.N;have:=Bc (step:=Fm.m ((k:Int),nt l.length,g,Tw C ch,l,X)) (n:=l.length) (fun i=>((i:Int),(js g C ((l.take i).eraseIdx k)).1,(js g C ((l.take i).eraseIdx k)).2.1,(js g C ((l.take i).eraseIdx k)).2.2)) ((js g C (l.eraseIdx k)).1,(js g C (l.eraseIdx k)).2.1,(js g C (l.eraseIdx k)).2.2) (by omega) (fun t=>l.length-t.1.toNat) (fun i _=>by simp) (fun i hi=>by
  have h':(i:Int)<(l.length:Int):=by omega
  have w:Ea ((i:Int)+1)=((i+1:Nat):Int):=by rw[Lb (by omega) (by omega)];rfl
  have hm:gx l i 0∈ch:=EW _ (Db (Li (d:=0) hi));have hlen:(l.take i).length=i:=by rw[Nb];omega
  simp only[LD.m,Fm,nt,h',decide_true,cond_true,ag hi,Ma,Ca,w];by_cases kP:i=k
  ·have e:(l.take (i+1)).eraseIdx k=(l.take i).eraseIdx k:=by
    rw[Je 0 hi,List.eraseIdx_append_of_length_le (by omega),hlen,kP,Nat.sub_self];show List.take k l++[]=_;rw[zi,It (by rw[Nb];omega)]
   rw[e,decide_eq_true (by rw[kP])];rfl
  ·have d:¬(i:Int)=(k:Int):=by omega
   have e:(l.take (i+1)).eraseIdx k=(l.take i).eraseIdx k++[gx l i 0]:=by
    rw[Je 0 hi];by_cases tc:k<i
    ·rw[List.eraseIdx_append_of_lt_length (by omega)]
    ·rw[It (by rw[qd,hlen,Ve];omega),It (by omega)]
   have e2:=R0 hN ((Nt hC ((l.take i).eraseIdx k)).toCov.ok hF) ((hC (gx l i 0)).toCov.ok hF);rw[<- Nv,<- e]at e2;simp only[d,decide_false,we,cond_true];have hh:QB (k:= .int .i64) (gx l i (0:Int)) (Tw C ch)=true:=(Uv C (gx l i 0) ch).trans (decide_eq_true hm);have hg:Eu (k:= .int .i64) (gx l i (0:Int)) vj (Tw C ch)=C (gx l i 0):=Xv C (gx l i 0) vj ch hm;rw[hh,cond_true,hg,e2];rfl) (by
  simp only[LD.m,Fm,nt,Pb,decide_false,cond_false,Hf])
 exact this
omit hL vi hn in
theorem iU{n:Nat}{C:Int->Pa}(hC:∀i,Jk g (C i))(ch:List Int)(BS:ChOK n ch)(TM:ch.length<=2000000)(X:Pa)(hX:X=js g C ch):Ia (Gm.m (g,Tw C ch,X)) (Ea ((ch.length:Int)-1),ch)=some (dl g C X ch ch.length):=by
 have hN:=hF.N;have hXs:Jk g X:=by rw[hX];exact Nt hC ch
 have w0:Ea ((ch.length:Int)-1)=(ch.length:Int)-1:=Lb (by omega) (by omega);have:=Bc (step:=Gm.m (g,Tw C ch,X)) (n:=ch.length) (fun i=>((ch.length:Int)-1-i,dl g C X ch i)) (dl g C X ch ch.length) (by omega) (fun t=>(t.1+1).toNat) (fun i hi=>by simp only;omega) (fun i hi=>by
  have ok:=aR hC BS (X:=X) (by rw[hX];exact .refl _) i (by omega);have hlen:=ok.len;have x9:=uI (g:=g) (C:=C) (X:=X) (ch:=ch) i;obtain⟨k,hk⟩:∃k:Nat,ch.length-(i+1)=k:=⟨_,rfl⟩;have hki:(ch.length:Int)-1-i=(k:Int):=by omega
  have h0:(0:Int)<=(k:Int):=by omega
  have w1:Ea ((k:Int)+1)=((k+1:Nat):Int):=by rw[Lb (by omega) (by omega)];rfl
  have w2:Ea ((k:Int)-1)=(ch.length:Int)-1-((i+1:Nat):Int):=by rw[Lb (by omega) (by omega)];omega
  have e28:=hU hF hC k ch (dl g C X ch i) X (tI i) (by omega);obtain⟨r,e24,h24⟩:=Tad hN (hXs.toCov.ok hF) ((Nt hC ((dl g C X ch i).eraseIdx k)).toCov.ok hF);simp only[LD.m,Gm,hki,decide_eq_true h0,cond_true,w1,w2];rw[jI hF,ga,e28,ga,e24,ga,dl,hk,dst];cases r
  ·have QJ:¬Xf X (js g C ((dl g C X ch i).eraseIdx k)):=fun h=>by have:=h24.2 ⟨h.toLeC,h.e⟩;cases this
   rw[if_neg QJ];rfl
  ·have hs:Xf X (js g C ((dl g C X ch i).eraseIdx k)):=⟨(h24.1 rfl).1,(h24.1 rfl).2⟩;have e45:IF ((k:Int),((k+1:Nat):Int),dl g C X ch i)=some ((dl g C X ch i).eraseIdx k):=by
    unfold IF;refine(Sd (by simp only[Na,decide_eq_true_eq];omega)).trans ?_;rw[List.eraseIdx_eq_take_drop_succ,Ca,Ca]
   rw[if_pos hs,cond_true,e45];rfl) (by
  have d:¬(0:Int)<=(ch.length:Int)-1-(ch.length:Int):=by omega
  simp only[LD.m,Gm,decide_eq_false d,cond_false])
 rw[w0]
 simpa[dl]using this
theorem Xad:∃K,K<=L.length/\K<=2000000/\Yr g L.length (CI g L fu) (gr g L.length (CI g L fu) K)<0/\(∀i,i<K->0<=Yr g L.length (CI g L fu) (gr g L.length (CI g L fu) i))/\qC (g,L,fu)=some (Ci (dl g (CI g L fu) (js g (CI g L fu) (gr g L.length (CI g L fu) K)) (gr g L.length (CI g L fu) K) (gr g L.length (CI g L fu) K).length)):=by
 have hC:=AO (L:=L) hF vi hL;obtain⟨K,h1,h2,h3⟩:=aac (n:=L.length) hC;have hK2:K<=2000000:=Gb (jX hC K h3) (sae hF.N ((Nt hC _).toCov.ok hF));refine⟨K,h1,hK2,h2,h3,?_⟩;obtain⟨ok,hlen⟩:=Wv hC K h3;have e3:=W0 hF vi hL hn;have IC:=kU hF hn hC h1 hK2 h2 h3;have e24:=iU hF hC (gr g L.length (CI g L fu) K) ok (by omega) (js g (CI g L fu) (gr g L.length (CI g L fu) K)) rfl;have hd:=uI (g:=g) (C:=CI g L fu) (X:=js g (CI g L fu) (gr g L.length (CI g L fu) K)) (ch:=gr g L.length (CI g L fu) K) (gr g L.length (CI g L fu) K).length;unfold qC LQ;simp only;rw[e3,ga,jI hF,ga,IC,ga];simp only[nt];rw[e24,ga];unfold JK;rw[Sd (by rw[decide_eq_true_eq];omega)];rfl
end
end Go.U
end
section
set_option maxRecDepth 20000
namespace Go.U
open Go
theorem bS{l:List Int}{x:Int}:x∈Ci l↔x∈l:=(V.Df _ l).mem_iff
theorem IV{l:List Int}(h:l.Nodup):(Ci l).Pairwise fun a b=>a<b:=by
 have h1:=V.yj (lt:=fun a b:Int=>decide (a<b)) (fun a b c h1 h2=>by have:=of_decide_eq_false h1;have:=of_decide_eq_false h2;exact decide_eq_false (by omega)) (fun a b h=>by have:=of_decide_eq_true h;exact decide_eq_false (by omega)) l;have h2:(Ci l).Nodup:=(V.Df _ l).nodup_iff.2 h;exact(List.pairwise_and_iff.2 ⟨h1,h2⟩).imp fun⟨a,b⟩=>by have:=of_decide_eq_false a;omega
section
variable {g:Ga}{D:List Int}{L:List (List Int)}{fu:Int}(hF:Gf g D)(vi:fu<=1000000)(hL:ShL L)(hn:L.length<=9223372036854775807)
include hF vi
include hL hn
end
end Go.U
end
