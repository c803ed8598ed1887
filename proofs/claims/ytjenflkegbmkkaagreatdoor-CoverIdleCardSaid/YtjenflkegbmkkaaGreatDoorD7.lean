/- What these Lean functions compute: plain arithmetic of congruences, the checks of a graph, the values of its registers. -/
import Derived.Test.YtjenflkegbmkkaaGreatDoorD6
import Derived.Test.YtjenflkegbmkkaaGreatDoorB4
set_option linter.unusedVariables false
set_option linter.unusedSimpArgs false
set_option linter.unusedSectionVars false
open Int renaming toNat_natCast→Ca,lt_irrefl→Mb
open List renaming mem_cons_self→zc,mem_cons_of_mem→Gb,nodup_append→By,foldl_cons→vB,mem_cons→oc,range→ua,map_append→Zu,mem_iff_getElem?→GB,take_length→qo,replicate→Ja,getD_eq_getElem?_getD→Ea,getElem?_replicate→Ei,mem_of_getElem?→jb
open Nat renaming zero_le→Nd,le_trans→Ib
open Option renaming bind_some→da
section
set_option maxRecDepth 20000
namespace Go.U
open Go
theorem Uv {α:Type} [DecidableEq α]:∀ (l L:List α),l.Nodup->(∀ x∈l,x∈L)->l.length<=L.length
 |[],L,_,_=>Nd _
 |a::l,L,hn,hs=>by
  obtain ⟨h1,h2⟩:=List.nodup_cons.1 hn;have ha:=hs a zc;have:=Uv l (L.erase a) h2 fun x hx=>(List.mem_erase_of_ne (fun e=>h1 (by rw [<- e];exact hx))).2 (hs x (Gb _ hx))
  have h3:=List.length_erase_of_mem ha;have:0<L.length:=List.length_pos_of_mem ha;rw [List.length_cons];omega
theorem QC {l:List Ra} {e:Ra}:e∈Xg l↔e∈l:=(V.Re ey l).mem_iff
theorem fH {l:List Ra} (h:l.Nodup):(Xg l).Nodup:=(V.Re ey l).nodup_iff.2 h
theorem iT {l:List Ra} {e x:Ra}:x∈Mk l e↔x∈l\/x=e:=by
 unfold Mk;split
 · rename_i h;exact ⟨.inl,fun hh=>hh.elim id fun e=>e ▸ h⟩
 · simp
theorem RJ {l:List Ra} {e:Ra} (h:l.Nodup):(Mk l e).Nodup:=by
 unfold Mk;split
 · exact h
 · rename_i hn;rw [By];exact ⟨h,by simp,fun a ha b hb=>by simp at hb;subst hb;exact fun e=>hn (e ▸ ha)⟩
theorem om {x:Ra}:∀ {es l:List Ra},x∈es.foldl Mk l↔x∈l\/x∈es
 |[],l=>by simp
 |e::es,l=>by rw [vB,om,iT,oc];exact or_assoc
theorem Xw:∀ {es l:List Ra},l.Nodup->(es.foldl Mk l).Nodup
 |[],l,h=>h
 |e::es,l,h=>by rw [vB];exact Xw (RJ h)
def aZ (g:Ba) (e:Ra):Prop:=∃ j,j<g.1.length/\e.1=(at' g j).2.2.2.2.2.1/\1<=e.2/\e.2<=5
structure Cov (g:Ba) (c:Pa):Prop where
 p:c.1.length=g.1.length
 w:c.2.1.length=g.1.length
 nd:c.2.2.Nodup
 e:∀ x∈c.2.2,aZ g x
def KL (g:Ba):List Ra:=(ua g.1.length).flatMap fun j=>[((at' g j).2.2.2.2.2.1,1),((at' g j).2.2.2.2.2.1,2),((at' g j).2.2.2.2.2.1,3),((at' g j).2.2.2.2.2.1,4),((at' g j).2.2.2.2.2.1,5)]
theorem JL (g:Ba):(KL g).length=g.1.length * 5:=by
 unfold KL;rw [List.length_flatMap];generalize g.1.length=n;induction n with
 |zero=>rfl
 |succ n ih=>rw [List.range_succ,Zu,List.sum_append,ih];simp;omega
theorem aZ.mem {g:Ba} {e:Ra} (h:aZ g e):e∈KL g:=by
 obtain ⟨j,hj,h1,h2,h3⟩:=h;obtain ⟨a,b⟩:=e;simp only at h1 h2 h3;subst h1;refine List.mem_flatMap.2 ⟨j,List.mem_range.2 hj,?_⟩;obtain rfl|rfl|rfl|rfl|rfl:b=1\/b=2\/b=3\/b=4\/b=5:=by omega
 all_goals simp
theorem Cov.ok {g:Ba} {D:List Int} (hF:Ng g D) {c:Pa} (h:Cov g c):oo g.1.length c:=⟨h.p,h.w,by
 have:=Uv _ _ h.nd fun x hx=>(h.e x hx).mem
 have:=JL g;have:=hF.N;omega⟩
theorem Cov.join {g:Ba} {a b:Pa} (ha:Cov g a) (hb:Cov g b):Cov g (ee a b):=⟨by simp [ee,Vw,ha.p,hb.p],by simp [ee,Ks,ha.w,hb.w],fH (Xw ha.nd),fun x hx=>by
 rcases om.1 (QC.1 hx) with h|h
 · exact ha.e x h
 · exact hb.e x h⟩
theorem LC (g:Ba):Cov g (Df g):=⟨by simp [Df],by simp [Df],by simp [Df],fun x hx=>by simp [Df] at hx⟩
section
variable {g:Ba} {D:List Int} {sc:List Int}
theorem NZ (hF:Ng g D) (hs:sc.length<=9223372036854775807) {fu:Int} (Ci:fu<=1000000):(ls g sc fu).en≠0/\Inv g sc (ls g sc fu)/\J1 g (ob1 g sc fu):=by
 obtain ⟨rk,hr,hI,hm⟩:=JS (sc:=sc) hF Ci;obtain ⟨_,w2,w3,w4⟩:=walk (S:=Rl.m (cH g [] sc)) iG (fun t=>M.of t.2.2.2.2) (fun _ _=>rfl) (zk g) (J1 g) hF (fun o m h ha=>h.next ha.2) (fun o m hI hJ=>xM hF hs hI hJ []) hr hI (U4 hF) hm;exact ⟨w2,w3,w4⟩
theorem Pu (hF:Ng g D) (hs:sc.length<=9223372036854775807) {fu:Int} (Ci:fu<=1000000):Cov g (Vs g sc fu):=by
 obtain ⟨h1,h2,h3⟩:=NZ hF hs Ci;refine ⟨h3.pl,h3.wl,?_,fun x hx=> ?_⟩
 · unfold Vs;simp only;split<;>simp
 · unfold Vs at hx;simp only at hx;split at hx
   · rename_i he;simp at hx;subst hx;exact h2.er he
   · simp at hx
def QJ (g:Ba) (yg:List (List Int)) (fu:Int):Pa:=yg.foldl (fun c s=>ee c (Vs g s fu)) (Df g)
def BG (l:List (List Int)):Prop:=l.length<=9223372036854775807/\∀ i,i<l.length->(gx l i []).length<=9223372036854775807
theorem iD (hF:Ng g D) {fu:Int} (Ci:fu<=1000000):∀ (l:List (List Int)) (c:Pa),(∀ s∈l,s.length<=9223372036854775807)->Cov g c->Cov g (l.foldl (fun c s=>ee c (Vs g s fu)) c)
 |[],c,_,h=>h
 |s::l,c,hl,h=>iD hF Ci l _ (fun x hx=>hl x (Gb _ hx)) (h.join (Pu hF (hl s zc) Ci))
theorem BG.mem {l:List (List Int)} (h:BG l) {s:List Int} (hs:s∈l):s.length<=9223372036854775807:=by
 obtain ⟨i,hi⟩:=GB.1 hs;have:=h.2 i (Ua hi)
 rwa [lp hi] at this
theorem FL (hF:Ng g D) {fu:Int} (Ci:fu<=1000000) {l:List (List Int)} (hl:BG l):jo (g,l,fu)=some (QJ g l fu):=by
 have hn:=hl.1;unfold jo mO;simp only;rw [aG hF,da];have hc:∀ i,Cov g ((l.take i).foldl (fun c s=>ee c (Vs g s fu)) (Df g)):=fun i=>iD hF Ci _ _ (fun s hs=>hl.mem (List.mem_of_mem_take hs)) (LC g)
 have:=Md (step:=Sp.m (fu,l,nt l.length,g)) (n:=l.length) (fun i=>((i:Int),(l.take i).foldl (fun c s=>ee c (Vs g s fu)) (Df g))) (QJ g l fu) (by omega) (fun t=>l.length-t.1.toNat) (fun i _=>by simp) (fun i hi=>by
  have h':(i:Int)<(l.length:Int):=by omega
  have w:Ga ((i:Int)+1)=((i+1:Nat):Int):=by rw [Sb (by omega) (by omega)];rfl
  have h1:=rX (g:=g) hF (hl.2 i hi) Ci;have h2:=yL hF.N ((hc i).ok hF) ((Pu hF (hl.2 i hi) Ci).ok hF);simp only [LD.m,Sp,nt,h',decide_true,cond_true,Rh hi,Xa,Ca,w];rw [h1,da,h2,da,Qg [] hi,List.foldl_append,vB,List.foldl_nil]) (by
  simp only [LD.m,Sp,nt,Mb,decide_false,cond_false,qo];rfl)
 have MG:Oa (Sp.m (fu,l,nt l.length,g)) (0,(Df g).1,(Df g).2.1,(Df g).2.2)=some (QJ g l fu):=this;rw [MG,da]
theorem Kaa (fu:Int):∃ r,HD fu=some r/\r<=250:=by
 unfold HD nO;by_cases h:200<fu
 · have h1:=Int.tmod_lt_of_pos fu (show (0:Int)<50 by decide);have h2:=Int.tmod_nonneg 50 (show 0<=fu by omega);have d:¬ (50:Int)=0:=by decide
   refine ⟨Ga (200+Int.tmod fu 50),?_,?_⟩
   · simp [h]
   · rw [Sb (by omega) (by omega)];omega
 · exact ⟨fu,by simp [h],by omega⟩
end
end Go.U
end
section
set_option maxRecDepth 20000
namespace Go.U
open Go
theorem L7:UP ()=some true:=by kernel_rfl
section
variable {g:Ba} {D:List Int} {sc:List Int}
structure Cl (o:VR):Prop where
 w:∀ i,gx o.2.1 i false=false->gx o.2.2.1 i (false,false)=(false,false)
 l:0<=o.1->gx o.2.1 o.1.toNat false=true
theorem Cl.next {o:VR} {m:M} (hJ:J1 g o) (h:Cl o) (h0:0<=m.at_/\m.at_<(g.1.length:Int)):Cl (zk g o m):=by
 have hp:m.at_.toNat<o.2.1.length:=by rw [hJ.pl];omega
 refine ⟨fun i hi=> ?_,fun _=>by simp only [zk];rw [iw hp,if_pos rfl]⟩;simp only [zk] at hi ⊢;rw [iw hp] at hi;by_cases e:m.at_.toNat=i
 · rw [if_pos e] at hi;cases hi
 · rw [if_neg e] at hi;by_cases hl:0<=o.1
   · rw [if_pos hl,iw (by rw [hJ.wl];have:=hJ.la;omega)];by_cases e2:o.1.toNat=i
     · have:=h.l hl;rw [e2,hi] at this;cases this
     · rw [if_neg e2];exact h.w i hi
   · rw [if_neg hl];exact h.w i hi
theorem vK {α:Type} {n i:Nat} {d:α}:gx (Ja n d) i d=d:=by
 simp only [gx,Ea,Ei];split<;>rfl
end
end Go.U
end
section
set_option maxRecDepth 20000
namespace Go.U
open Go
theorem eac {S:Nat} {n:Int} (h:KC S (.int .i64) n): -9223372036854775808<=n/\n<=9223372036854775807:=by
 have e1:IntKind.i64.min= -9223372036854775808:=by decide
 have e2:IntKind.i64.max=9223372036854775807:=by decide
 obtain ⟨h1,h2⟩:=h;rw [e1] at h1;rw [e2] at h2;exact ⟨h1,h2⟩
theorem Wv:maxLen=9223372036854775807:=by decide
theorem D8 {g:Ba} {j:Nat} (h:j<g.1.length):at' g j∈g.1:=jb (jh (d:=Ta) h)
theorem WZ {S:Nat} (hS:S<=maxLen) {g:Ba} (h:KC S Jw g):E4 g:=by
 obtain ⟨⟨⟨hi,_⟩,hi2⟩,_,_,_,⟨⟨ha,_⟩,cU⟩,⟨⟨hs,_⟩,_⟩,⟨⟨hn,_⟩,_⟩,⟨hl,_⟩,_⟩:=h;rw [Wv] at hS;have hi:=Ib hi hS;have ha:=Ib ha hS;have hs:=Ib hs hS;have hn:=Ib hn hS;have hl:=Ib hl hS;refine ⟨hi,hs,ha,hn,hl,fun j hj=> ?_⟩;obtain ⟨_,h2,_⟩:=hi2 _ (D8 hj);exact eac h2
theorem F8 {S:Nat} (hS:S<=maxLen) {l:List Int} (h:KC S (.slice (.int .i64)) l):l.length<=9223372036854775807:=by
 rw [Wv] at hS;exact Ib h.1.1 hS
end Go.U
end
