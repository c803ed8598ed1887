/- What these Lean functions compute: plain arithmetic of congruences, the checks of a graph, the values of its registers. -/
import Derived.Test.YtjenflkegbmkkaaGreatDoorD12
import Derived.Test.YtjenflkegbmkkaaGreatDoorD10
set_option linter.unusedVariables false
set_option linter.unusedSimpArgs false
set_option linter.unusedSectionVars false
open Bool renaming and_eq_true→Na,not_false→we,not_true→nh
open Int renaming toNat_natCast→Ca,lt_irrefl→Pb
open List renaming range→ua,getElem?_map→Wb,length_set→Td,mem_append→Kk,mem_append_left→If,length_take→Nb,length_singleton→Ve,take_length→Hf,mem_filter→Mg,length→da,replicate→Ba,mem_of_getElem?→Db,append_nil→zi,mem_eraseIdx_iff_getElem?→Ap
open Nat renaming le_refl→va
open Option renaming bind_some→ga
open Option.some renaming inj→Sj
section
set_option maxRecDepth 20000
namespace Go.U
open Go
def fl(n:Nat)(l:List Int):List Bool:=(ua n).map fun i:Nat=>decide ((i:Int)∈l)
theorem Al(n:Nat)(l:List Int):(fl n l).length=n:=by simp[fl]
theorem tF{n:Nat}{l:List Int}{i:Nat}(h:i<n):gx (fl n l) i false=decide ((i:Int)∈l):=Vv (by
 unfold fl;rw[Wb,List.getElem?_range h];rfl)
theorem uP{n:Nat}{B:List Bool}{l:List Int}(hl:B.length=n)(h:∀i,i<n->gx B i false=decide ((i:Int)∈l)):B=fl n l:=
 Cy false (by rw[hl,Al]) fun i hi=>by rw[h i (by omega),tF (by omega)]
theorem cac{n:Nat}{l:List Int}{x:Int}(h0:0<=x)(h1:x<(n:Int)):(fl n l).set x.toNat true=fl n (l++[x]):=
 uP (by rw[Td,Al]) fun i hi=>by
  rw[Ym (by rw[Al];omega)];split
  ·rename_i e;rw[decide_eq_true];rw[Kk];right;rw[List.mem_singleton];omega
  ·rename_i e;rw[tF hi];exact decide_eq_decide.2 ⟨fun h=>If _ h,fun h=>by
   rcases Kk.1 h with h|h
   ·exact h
   ·rw[List.mem_singleton]at h;omega⟩
theorem waf{l r:List Int}(hl:l.Pairwise fun a b=>a<b)(hr:r.Pairwise fun a b=>a<b)(h:∀x,x∈l↔x∈r):l=r:=
 List.Perm.eq_of_pairwise (le:=fun a b=>a<b) (fun a b _ _ h1 h2=>by omega) hl hr ((List.perm_ext_iff_of_nodup (hl.imp fun h=>by omega) (hr.imp fun h=>by omega)).2 h)
section
variable {g:Ga}{D:List Int}{L:List (List Int)}{fu:Int}(hF:Gf g D)(vi:fu<=1000000)(hL:ShL L)(hn:L.length<=1048576)
def Yi(g:Ga)(L:List (List Int))(fu:Int):List Pa:=L.map fun s=>MC g s fu
theorem ah:(Yi g L fu).length=L.length:=by simp[Yi]
theorem MI{i:Nat}(h:i<L.length):gx (Yi g L fu) i vj=CI g L fu (i:Int):=by
 unfold Yi CI;rw[iX (d:=[]) h,Ca]
include hF vi hL hn
theorem V0:Ia (Zq.m ((L,fu),g)) (0,[])=some (Yi g L fu):=by
 have:=Bc (step:=Zq.m ((L,fu),g)) (n:=L.length) (fun i=>((i:Int),Yi g (L.take i) fu)) (Yi g L fu) (by omega) (fun t=>L.length-t.1.toNat) (fun i _=>by simp) (fun i hi=>by
  have h':(i:Int)<(L.length:Int):=by omega
  have w:Ea ((i:Int)+1)=((i+1:Nat):Int):=by rw[Lb (by omega) (by omega)];rfl
  have hb:(Yi g (L.take i) fu).length<=1048576:=by rw[ah,Nb];omega
  simp only[LD.m,Zq,nt,h',decide_true,cond_true,ag hi,Ma,Ca,w];rw[oad hF (fH hL i) vi,ga];refine(Sd (by simp only[Na,decide_eq_true_eq,Ve];omega)).trans ?_;rw[Je [] hi];unfold Yi;rw[List.map_append];rfl) (by
  simp only[LD.m,Zq,nt,Pb,decide_false,cond_false,Hf])
 exact this
theorem QF(cl:List Int):Ia (Em.m ((g,Yi g L fu),cl,(js g (CI g L fu) cl).1,(js g (CI g L fu) cl).2.1,(js g (CI g L fu) cl).2.2)) (-1,(AI (js g (CI g L fu) cl):Int),0)=some (Yr g L.length (CI g L fu) cl):=by
 have hN:=hF.N;have hC:=AO (L:=L) hF vi hL;generalize hh:js g (CI g L fu) cl=h;have hs:Jk g h:=by rw[<- hh];exact Nt hC cl
 have hv:∀i,vv g (CI g L fu) cl i=Ep (CI g L fu (i:Int)) h:=fun i=>by rw[<- hh];rfl
 have:=Bc (step:=Em.m ((g,Yi g L fu),cl,h.1,h.2.1,h.2.2)) (n:=L.length) (fun i=>((mD (vv g (CI g L fu) cl) i).1,((AI h+(mD (vv g (CI g L fu) cl) i).2:Nat):Int),(i:Int))) (Yr g L.length (CI g L fu) cl) (by omega) (fun t=>L.length-t.2.2.toNat) (fun i _=>by simp) (fun i hi=>by
  have h':(i:Int)<((Yi g L fu).length:Int):=by rw[ah];omega
  have w:Ea ((i:Int)+1)=((i+1:Nat):Int):=by rw[Lb (by omega) (by omega)];rfl
  have e1:=zN hF hs.toCov (hC (i:Int)).toCov;have e2:=RN hN ((hs.join (hC (i:Int))).toCov.ok hF);rw[pL hs.toCov (hC (i:Int)).toCov]at e2;simp only[LD.m,Em,nt,h',decide_true,cond_true,ag (show i<(Yi g L fu).length by rw[ah];exact hi),Ma,Ca,w];rw[MI hi,e1,ga,e2,ga];by_cases hb:(mD (vv g (CI g L fu) cl) i).2<vv g (CI g L fu) cl i
  ·have HD:=hb;rw[hv]at HD;have ud:((AI h+(mD (vv g (CI g L fu) cl) i).2:Nat):Int)<((AI h+Ep (CI g L fu (i:Int)) h:Nat):Int):=by omega
   rw[decide_eq_true ud,cond_true,mD,if_pos hb,hv]
  ·have HD:=hb;rw[hv]at HD;have ud:¬((AI h+(mD (vv g (CI g L fu) cl) i).2:Nat):Int)<((AI h+Ep (CI g L fu (i:Int)) h:Nat):Int):=by omega
   rw[decide_eq_false ud,cond_false,mD,if_neg hb]) (by
  have h':¬((L.length:Nat):Int)<((Yi g L fu).length:Int):=by rw[ah];omega
  simp only[LD.m,Em,nt,h',decide_false,cond_false];rfl)
 exact this
theorem U0{K:Nat}(hK:K<=L.length)(h1:Yr g L.length (CI g L fu) (gr g L.length (CI g L fu) K)<0)(h2:∀i,i<K->0<=Yr g L.length (CI g L fu) (gr g L.length (CI g L fu) i)):Ia (Yq.m (g,Yi g L fu)) ([],(oe g).1,(oe g).2.1,(oe g).2.2)=some (gr g L.length (CI g L fu) K,(js g (CI g L fu) (gr g L.length (CI g L fu) K)).1,(js g (CI g L fu) (gr g L.length (CI g L fu) K)).2.1,(js g (CI g L fu) (gr g L.length (CI g L fu) K)).2.2):=by
 have hN:=hF.N;have hC:=AO (L:=L) hF vi hL;have:=Bc (step:=Yq.m (g,Yi g L fu)) (n:=K) (fun k=>(gr g L.length (CI g L fu) k,(js g (CI g L fu) (gr g L.length (CI g L fu) k)).1,(js g (CI g L fu) (gr g L.length (CI g L fu) k)).2.1,(js g (CI g L fu) (gr g L.length (CI g L fu) k)).2.2)) (gr g L.length (CI g L fu) K,(js g (CI g L fu) (gr g L.length (CI g L fu) K)).1,(js g (CI g L fu) (gr g L.length (CI g L fu) K)).2.1,(js g (CI g L fu) (gr g L.length (CI g L fu) K)).2.2) (by omega) (fun t=>K-t.1.length) (fun k hk=>by rw[(Wv hC k fun i hi=>h2 i (by omega)).2]) (fun k hk=>by
  obtain⟨ok,hlen⟩:=Wv hC k fun i hi=>h2 i (by omega)
  obtain⟨j,j1,j2,j3⟩:=NG hC (h2 k hk);have d:¬(j:Int)<0:=by omega
  have e19:=RN hN ((Nt hC (gr g L.length (CI g L fu) k)).toCov.ok hF);have i1:=QF hF vi hL hn (gr g L.length (CI g L fu) k);have e:=zN hF (Nt hC (gr g L.length (CI g L fu) k)).toCov (hC j).toCov;rw[<- Nv]at e;simp only[LD.m,Yq];rw[e19,ga,i1,ga,j2,decide_eq_false d,cond_false];refine(Sd (by simp only[Na,decide_eq_true_eq,Ve];omega)).trans ?_;rw[ag (by rw[ah];exact j1),Ma,Ca,MI j1,e,ga];simp only[gr,j2]) (by
  have e19:=RN hN ((Nt hC (gr g L.length (CI g L fu) K)).toCov.ok hF);have i1:=QF hF vi hL hn (gr g L.length (CI g L fu) K);simp only[LD.m,Yq];rw[e19,ga,i1,ga,decide_eq_true h1];rfl)
 exact this
end
end Go.U
end
section
set_option maxRecDepth 20000
namespace Go.U
open Go
theorem P6(n:Nat)(p:Int->Bool):((idx n).filter p).Pairwise fun a b=>a<b:=by
 refine List.Pairwise.filter _ ?_;induction n with
 |zero=>exact .nil
 |succ n ih=>
  rw[Pv,List.pairwise_append];exact⟨ih,List.pairwise_singleton _ _,fun a ha b hb=>by
   rw[List.mem_singleton]at hb;subst hb;exact(Fs.1 ha).2⟩
theorem Q6{n:Nat}{l:List Int}(h:ChOK n l):(idx n).filter (fun i=>decide (i∈l))=Ci l:=
 waf (P6 n _) (IV h.nd) fun x=>by
  rw[Mg,bS,decide_eq_true_eq,Fs];exact⟨fun h=>h.2,fun hx=>⟨h.r x hx,hx⟩⟩
theorem ZQ{g:Ga}{C:Int->Pa}{X:Pa}{ch:List Int}:∀i,i<=ch.length->(dl g C X ch i).take (ch.length-i)=ch.take (ch.length-i)
 |0,_=>rfl
 |i+1,h=>by
  have ih:=ZQ (g:=g) (C:=C) (X:=X) (ch:=ch) i (by omega);have e:(dl g C X ch i).take (ch.length-(i+1))=ch.take (ch.length-(i+1)):=by
   have:=congrArg (List.take (ch.length-(i+1))) ih
   rwa [List.take_take,List.take_take,Nat.min_eq_left (by omega)]at this
  unfold dl dst;split
  ·rw[<- e];rw[List.eraseIdx_eq_take_drop_succ];have hl:(dl g C X ch i).length≥ch.length-i:=by
    have:=congrArg da ih;rw[Nb,Nb]at this;omega
   rw[List.take_append_of_le_length (by rw[Nb];omega),List.take_take,Nat.min_self]
  ·exact e
section
variable {g:Ga}{D:List Int}{L:List (List Int)}{fu:Int}(hF:Gf g D)(vi:fu<=1000000)(hL:ShL L)(hn:L.length<=1048576)
theorem dU(hn:L.length<=1048576){ch:List Int}(BS:ChOK L.length ch)(A:List Pa)(X:Pa):Ia (Dm.m (g,A,ch,X)) (0,Ba L.length false)=some (fl L.length ch):=by
 have hlen:=BS.len;have e0:Ba L.length false=fl L.length []:=uP (by simp) fun i hi=>by rw[eH];simp
 have:=Bc (step:=Dm.m (g,A,ch,X)) (n:=ch.length) (fun i=>((i:Int),fl L.length (ch.take i))) (fl L.length ch) (by omega) (fun t=>ch.length-t.1.toNat) (fun i _=>by simp) (fun i hi=>by
  have h':(i:Int)<(ch.length:Int):=by omega
  have w:Ea ((i:Int)+1)=((i+1:Nat):Int):=by rw[Lb (by omega) (by omega)];rfl
  obtain⟨r1,r2⟩:=BS.r _ (Db (Li (d:=0) hi));simp only[LD.m,Dm,nt,h',decide_true,cond_true,ag hi,Ma,Ca,w,Al,Xi r1 r2];rw[cac r1 r2,Je 0 hi]) (by
  simp only[LD.m,Dm,nt,Pb,decide_false,cond_false,Hf])
 rw[e0];exact this
include hF vi hL hn
theorem bU(k:Int)(ch l:List Int)(X:Pa)(hl:ChOK L.length l):Ia (Bm.m (k,g,Yi g L fu,ch,fl L.length l,X)) (0,(oe g).1,(oe g).2.1,(oe g).2.2)=some ((js g (CI g L fu) l).1,(js g (CI g L fu) l).2.1,(js g (CI g L fu) l).2.2):=by
 have hC:=AO (L:=L) hF vi hL;have e:js g (CI g L fu) l=js g (CI g L fu) ((idx L.length).filter fun i=>decide (i∈l)):=Raf hC fun i=>by
  rw[Mg,decide_eq_true_eq,Fs];exact⟨fun h=>⟨hl.r i h,h⟩,fun h=>h.2⟩
 have:=Bc (step:=Bm.m (k,g,Yi g L fu,ch,fl L.length l,X)) (n:=L.length) (fun i=>((i:Int),(js g (CI g L fu) ((idx i).filter fun i=>decide (i∈l))).1,(js g (CI g L fu) ((idx i).filter fun i=>decide (i∈l))).2.1,(js g (CI g L fu) ((idx i).filter fun i=>decide (i∈l))).2.2)) ((js g (CI g L fu) l).1,(js g (CI g L fu) l).2.1,(js g (CI g L fu) l).2.2) (by omega) (fun t=>L.length-t.1.toNat) (fun i _=>by simp) (fun i hi=>by
  have h':(i:Int)<((Yi g L fu).length:Int):=by rw[ah];omega
  have w:Ea ((i:Int)+1)=((i+1:Nat):Int):=by rw[Lb (by omega) (by omega)];rfl
  simp only[LD.m,Bm,nt,h',decide_true,cond_true,Al,ag hi,Ma,Ca,w,tF hi,ag (show i<(Yi g L fu).length by rw[ah];exact hi)];rw[Pv,List.filter_append];by_cases hm:(i:Int)∈l
  ·have e2:=zN hF (Nt hC ((idx i).filter fun i=>decide (i∈l))).toCov (hC (i:Int)).toCov;rw[<- Nv]at e2;have e3:[(i:Int)].filter (fun i=>decide (i∈l))=[(i:Int)]:=by simp[hm]
   rw[decide_eq_true hm,cond_true,MI hi,e2,e3];rfl
  ·have e3:[(i:Int)].filter (fun i=>decide (i∈l))=[]:=by simp[hm]
   rw[decide_eq_false hm,cond_false,e3,zi]) (by
  have h':¬((L.length:Nat):Int)<((Yi g L fu).length:Int):=by rw[ah];omega
  simp only[LD.m,Bm,nt,h',decide_false,cond_false,e])
 exact this
theorem cU{ch:List Int}(BS:ChOK L.length ch):Ia (Cm.m (g,Yi g L fu,ch,js g (CI g L fu) ch)) (Ea ((ch.length:Int)-1),fl L.length ch)=some (fl L.length (dl g (CI g L fu) (js g (CI g L fu) ch) ch ch.length)):=by
 have hN:=hF.N;have hC:=AO (L:=L) hF vi hL;have TM:=BS.len;obtain⟨X,hX⟩:∃X,js g (CI g L fu) ch=X:=⟨_,rfl⟩;have hXs:Jk g X:=by rw[<- hX];exact Nt hC ch
 rw[hX];have w0:Ea ((ch.length:Int)-1)=(ch.length:Int)-1:=Lb (by omega) (by omega);have:=Bc (step:=Cm.m (g,Yi g L fu,ch,X)) (n:=ch.length) (fun i=>((ch.length:Int)-1-i,fl L.length (dl g (CI g L fu) X ch i))) (fl L.length (dl g (CI g L fu) X ch ch.length)) (by omega) (fun t=>(t.1+1).toNat) (fun i hi=>by simp only;omega) (fun i hi=>by
  have ok:=aR hC BS (X:=X) (by rw[hX];exact .refl _) i (by omega);have hlen:=ok.len;have ht:=ZQ (g:=g) (C:=CI g L fu) (X:=X) (ch:=ch) i (by omega);have EW:=tI (g:=g) (C:=CI g L fu) (X:=X) (ch:=ch) i;obtain⟨k,hk⟩:∃k:Nat,ch.length-(i+1)=k:=⟨_,rfl⟩;have hki:(ch.length:Int)-1-i=(k:Int):=by omega
  have h0:(0:Int)<=(k:Int):=by omega
  have w2:Ea ((k:Int)-1)=(ch.length:Int)-1-((i+1:Nat):Int):=by rw[Lb (by omega) (by omega)];omega
  have hkc:k<ch.length:=by omega
  obtain⟨r1,r2⟩:=BS.r _ (Db (Li (d:=0) hkc));have hx:(dl g (CI g L fu) X ch i)[k]?=some (gx ch k 0):=by
   rw[<- Li (d:=0) hkc];have:((dl g (CI g L fu) X ch i).take (ch.length-i))[k]?=(ch.take (ch.length-i))[k]?:=by rw[ht]
   rwa [List.getElem?_take_of_lt (by omega),List.getElem?_take_of_lt (by omega)]at this
  rw[dl,hk,dst];generalize dl g (CI g L fu) X ch i=l at *
  obtain⟨x,hxe⟩:∃x,gx ch k 0=x:=⟨_,rfl⟩;rw[hxe]at r1 r2 hx;have hlr:ChOK L.length (l.eraseIdx k):=ok.toChOK.erase k;have aH:∀j:Int,j∈l.eraseIdx k↔j∈l/\j≠x:=fun j=>by
   rw[Ap];constructor
   ·rintro⟨a,ha,hj⟩
    refine⟨Db hj,fun e=>ha ?_⟩;subst e;exact(List.getElem?_inj (Xa hj) ok.nd).1 (hj.trans hx.symm)
   ·rintro⟨hj,Sc⟩
    obtain⟨a,ha⟩:=List.mem_iff_getElem?.1 hj;exact⟨a,fun e=>Sc (by subst e;exact Sj (ha.symm.trans hx)),ha⟩
  have wh:(fl L.length l).set x.toNat false=fl L.length (l.eraseIdx k):=uP (by rw[Td,Al]) fun j hj=>by
   rw[Ym (by rw[Al];omega)];split
   ·rename_i e;rw[decide_eq_false];rw[aH];omega
   ·rename_i e;rw[tF hj];exact decide_eq_decide.2 ((aH (j:Int)).trans ⟨fun h=>h.1,fun h=>⟨h,by omega⟩⟩).symm
  have iah:(fl L.length (l.eraseIdx k)).set x.toNat true=fl L.length l:=uP (by rw[Td,Al]) fun j hj=>by
   rw[Ym (by rw[Al];omega)];split
   ·rename_i e;have:(j:Int)=x:=by omega
    rw[this,decide_eq_true (Db hx)]
   ·rename_i e;rw[tF hj];exact decide_eq_decide.2 ((aH (j:Int)).trans ⟨fun h=>h.1,fun h=>⟨h,by omega⟩⟩)
  have e31:=bU hF vi hL hn (k:Int) ch (l.eraseIdx k) X hlr;have hJ:=Nt hC (l.eraseIdx k);have JL:=gae hN (hJ.toCov.ok hF) (hXs.toCov.ok hF);have iff:js g (CI g L fu) (l.eraseIdx k)=X↔Xf X (js g (CI g L fu) (l.eraseIdx k)):=⟨fun h=>by rw[h];exact .refl _,fun h=>Xf.zai hJ hXs (by rw[<- hX];exact mA hC fun i hi=>EW i ((aH i).1 hi).1) h⟩;simp only[LD.m,Cm,hki,decide_eq_true h0,cond_true,ag hkc,Ma,Ca,Al,hxe,Xi r1 r2,wh];rw[TN hF,ga,e31,ga,JL,ga];by_cases hs:Xf X (js g (CI g L fu) (l.eraseIdx k))
  ·rw[if_pos hs,decide_eq_true (iff.2 hs),w2];rfl
  ·rw[if_neg hs,decide_eq_false (fun h=>hs (iff.1 h)),w2];simp only[we,cond_true,iah]) (by
  have d:¬(0:Int)<=(ch.length:Int)-1-(ch.length:Int):=by omega
  simp only[LD.m,Cm,decide_eq_false d,cond_false])
 rw[w0]
 simpa[dl]using this
omit hF vi hL in
theorem aU{l:List Int}(hl:ChOK L.length l):Ia (Am.m (Yi g L fu,fl L.length l)) (0,[])=some (Ci l):=by
 rw[<- Q6 hl];have:=Bc (step:=Am.m (Yi g L fu,fl L.length l)) (n:=L.length) (fun i=>((i:Int),(idx i).filter fun i=>decide (i∈l))) ((idx L.length).filter fun i=>decide (i∈l)) (by omega) (fun t=>L.length-t.1.toNat) (fun i _=>by simp) (fun i hi=>by
  have h':(i:Int)<((Yi g L fu).length:Int):=by rw[ah];omega
  have w:Ea ((i:Int)+1)=((i+1:Nat):Int):=by rw[Lb (by omega) (by omega)];rfl
  have hb:((idx i).filter fun i=>decide (i∈l)).length<=1048576:=by
   have:=List.length_filter_le (fun i=>decide (i∈l)) (idx i);have e:(idx i).length=i:=by simp[idx]
   omega
  simp only[LD.m,Am,nt,h',decide_true,cond_true,Al,ag hi,Ma,Ca,w,tF hi];rw[Pv,List.filter_append];by_cases hm:(i:Int)∈l
  ·have e3:[(i:Int)].filter (fun i=>decide (i∈l))=[(i:Int)]:=by simp[hm]
   rw[decide_eq_true hm,cond_true,e3];exact Sd (by simp only[Na,decide_eq_true_eq,Ve];omega)
  ·have e3:[(i:Int)].filter (fun i=>decide (i∈l))=[]:=by simp[hm]
   rw[decide_eq_false hm,cond_false,e3,zi]) (by
  have h':¬((L.length:Nat):Int)<((Yi g L fu).length:Int):=by rw[ah];omega
  simp only[LD.m,Am,nt,h',decide_false,cond_false])
 exact this
theorem Wad{K:Nat}(hK:K<=L.length)(h1:Yr g L.length (CI g L fu) (gr g L.length (CI g L fu) K)<0)(h2:∀i,i<K->0<=Yr g L.length (CI g L fu) (gr g L.length (CI g L fu) i)):SF (g,L,fu)=some (Ci (dl g (CI g L fu) (js g (CI g L fu) (gr g L.length (CI g L fu) K)) (gr g L.length (CI g L fu) K) (gr g L.length (CI g L fu) K).length)):=by
 have hC:=AO (L:=L) hF vi hL;obtain⟨ok,hlen⟩:=Wv hC K h2;have e3:=V0 hF vi hL hn;have e8:=U0 hF vi hL hn hK h1 h2;generalize gr g L.length (CI g L fu) K=ch at *
 have e22:=dU (g:=g) hn ok (Yi g L fu) (js g (CI g L fu) ch);have e26:=cU hF vi hL hn ok;have hd:=(aR hC ok (X:=js g (CI g L fu) ch) (.refl _) _ (va _)).toChOK;have e39:=aU (g:=g) (fu:=fu) hn hd;unfold SF KQ;simp only;rw[e3,ga,TN hF,ga,e8,ga];simp only[nt,ah,Ca];refine(Sd (b:=decide (0<=(L.length:Int))&&decide ((L.length:Int)<=(L.length:Int))&&decide (1 * (L.length:Int)<=70368744177664)&&decide ((L.length:Int)<9223372036854775808)) (by simp;omega)).trans ?_;rw[e22,ga,e26,ga,e39];rfl
end
theorem C1(l:List Int)(hl:l.length<=9223372036854775807):rC (l,l)=some true:=by
 have:=Bc (step:=cr.m (l,l)) (n:=l.length) (fun i=>(i:Int)) (.inr ()) (by omega) (fun t=>l.length-t.toNat) (fun i _=>by simp) (fun i hi=>by
  have h':(i:Int)<(l.length:Int):=by omega
  have w:Ea ((i:Int)+1)=((i+1:Nat):Int):=by rw[Lb (by omega) (by omega)];rfl
  simp only[LD.m,cr,nt,h',decide_true,cond_true,ag hi,Ma,Ca,nh,cond_false,w]) (by
  simp only[LD.m,cr,nt,Pb,decide_false,cond_false])
 have Yu:Ia (cr.m (l,l)) 0=some (.inr ()):=this;unfold rC MQ;simp only[decide_true,nh,cond_false];rw[Yu];rfl
theorem Laf(g:Ga)(L:List (List Int))(fu:Int)(hG:J8 g)(hL:ShL L)(hn:L.length<=1048576):tN (g,L,fu)=some true:=by
 unfold tN M7;obtain⟨r,hr,XJ⟩:=Dah hG;simp only;rw[hr,ga];cases r
 ·simp only[we,cond_true];rw[Z_];rfl
 obtain⟨D,hF⟩:=XJ rfl;obtain⟨f,hf,hf2⟩:=mae fu;simp only[nh,cond_false];have vi:f<=1000000:=by omega
 obtain⟨K,h1,hK2,h2,h3,h4⟩:=Xad hF vi hL (by omega);have e22:=Wad hF vi hL hn h1 h2 h3;have hl:=uI (g:=g) (C:=CI g L f) (X:=js g (CI g L f) (gr g L.length (CI g L f) K)) (ch:=gr g L.length (CI g L f) K) (gr g L.length (CI g L f) K).length;have hlen:=(Wv (AO (L:=L) hF vi hL) K h3).2;rw[hf,ga,h4,ga,e22,ga,C1 _ (by show(V.Ci _).length<=_;rw[V.Dx];omega),ga,cond_true,Z_];rfl
theorem Vaj(g:Ga)(a:List (List Int))(fu:Int)(h0:XE 1048576 Iy g)(h1:XE 1048576 (.slice (.slice (.int .i64))) a)(h2:XE 1048576 (.int .i64) fu):tN (g,a,fu)=some true:=
 Laf g a fu (R5 (by decide) h0) (taa (by decide) h1) h1.1.1
end Go.U
end
