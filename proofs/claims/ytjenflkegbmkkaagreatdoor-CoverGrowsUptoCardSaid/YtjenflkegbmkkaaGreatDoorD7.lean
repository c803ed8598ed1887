/- What these Lean functions compute: plain arithmetic of congruences, the checks of a graph, the values of its registers. -/
import Derived.Test.YtjenflkegbmkkaaGreatDoorD6
import Derived.Test.YtjenflkegbmkkaaGreatDoorB4
set_option linter.unusedVariables false
set_option linter.unusedSimpArgs false
set_option linter.unusedSectionVars false
section
set_option maxRecDepth 20000
namespace Go.U
open Go
theorem nodup_len {α:Type} [DecidableEq α]:∀ (l L:List α),l.Nodup->(∀ x∈l,x∈L)->l.length<=L.length
 |[],L,_,_=>Nat.zero_le _
 |a::l,L,hn,hs=>by
  obtain ⟨h1,h2⟩:=List.nodup_cons.1 hn;have ha:=hs a List.mem_cons_self;have:=nodup_len l (L.erase a) h2 fun x hx=>(List.mem_erase_of_ne (fun e=>h1 (by rw [<- e];exact hx))).2 (hs x (List.mem_cons_of_mem _ hx))
  have h3:=List.length_erase_of_mem ha;have:0<L.length:=List.length_pos_of_mem ha;rw [List.length_cons];omega
theorem mem_sortA {l:List TAlarm} {e:TAlarm}:e∈sortA l↔e∈l:=(V.sortBy_perm ltA l).mem_iff
theorem nodup_sortA {l:List TAlarm} (h:l.Nodup):(sortA l).Nodup:=(V.sortBy_perm ltA l).nodup_iff.2 h
theorem mem_addE {l:List TAlarm} {e x:TAlarm}:x∈addE l e↔x∈l\/x=e:=by
 unfold addE;split
 · rename_i h;exact ⟨.inl,fun hh=>hh.elim id fun e=>e ▸ h⟩
 · simp
theorem nodup_addE {l:List TAlarm} {e:TAlarm} (h:l.Nodup):(addE l e).Nodup:=by
 unfold addE;split
 · exact h
 · rename_i hn;rw [List.nodup_append];exact ⟨h,by simp,fun a ha b hb=>by simp at hb;subst hb;exact fun e=>hn (e ▸ ha)⟩
theorem mem_foldE {x:TAlarm}:∀ {es l:List TAlarm},x∈es.foldl addE l↔x∈l\/x∈es
 |[],l=>by simp
 |e::es,l=>by rw [List.foldl_cons,mem_foldE,mem_addE,List.mem_cons];exact or_assoc
theorem nodup_foldE:∀ {es l:List TAlarm},l.Nodup->(es.foldl addE l).Nodup
 |[],l,h=>h
 |e::es,l,h=>by rw [List.foldl_cons];exact nodup_foldE (nodup_addE h)
def ErrIn (g:TGraph) (e:TAlarm):Prop:=∃ j,j<g.1.length/\e.1=(at' g j).2.2.2.2.2.1/\1<=e.2/\e.2<=5
structure Cov (g:TGraph) (c:TCover):Prop where
 p:c.1.length=g.1.length
 w:c.2.1.length=g.1.length
 nd:c.2.2.Nodup
 e:∀ x∈c.2.2,ErrIn g x
def errsOf (g:TGraph):List TAlarm:=(List.range g.1.length).flatMap fun j=>[((at' g j).2.2.2.2.2.1,1),((at' g j).2.2.2.2.2.1,2),((at' g j).2.2.2.2.2.1,3),((at' g j).2.2.2.2.2.1,4),((at' g j).2.2.2.2.2.1,5)]
theorem errsOf_len (g:TGraph):(errsOf g).length=g.1.length * 5:=by
 unfold errsOf;rw [List.length_flatMap];generalize g.1.length=n;induction n with
 |zero=>rfl
 |succ n ih=>rw [List.range_succ,List.map_append,List.sum_append,ih];simp;omega
theorem ErrIn.mem {g:TGraph} {e:TAlarm} (h:ErrIn g e):e∈errsOf g:=by
 obtain ⟨j,hj,h1,h2,h3⟩:=h;obtain ⟨a,b⟩:=e;simp only at h1 h2 h3;subst h1;refine List.mem_flatMap.2 ⟨j,List.mem_range.2 hj,?_⟩;obtain rfl|rfl|rfl|rfl|rfl:b=1\/b=2\/b=3\/b=4\/b=5:=by omega
 all_goals simp
theorem Cov.ok {g:TGraph} {D:List Int} (hF:FitG g D) {c:TCover} (h:Cov g c):CovOK g.1.length c:=⟨h.p,h.w,by
 have:=nodup_len _ _ h.nd fun x hx=>(h.e x hx).mem
 have:=errsOf_len g;have:=hF.N;omega⟩
theorem Cov.join {g:TGraph} {a b:TCover} (ha:Cov g a) (hb:Cov g b):Cov g (joinC a b):=⟨by simp [joinC,orB,ha.p,hb.p],by simp [joinC,orW,ha.w,hb.w],nodup_sortA (nodup_foldE ha.nd),fun x hx=>by
 rcases mem_foldE.1 (mem_sortA.1 hx) with h|h
 · exact ha.e x h
 · exact hb.e x h⟩
theorem none0_cov (g:TGraph):Cov g (none0 g):=⟨by simp [none0],by simp [none0],by simp [none0],fun x hx=>by simp [none0] at hx⟩
section
variable {g:TGraph} {D:List Int} {sc:List Int}
theorem run_end (hF:FitG g D) (hs:sc.length<=9223372036854775807) {fu:Int} (hfu:fu<=1000000):(ls g sc fu).en≠0/\Inv g sc (ls g sc fu)/\J1 g (ob1 g sc fu):=by
 obtain ⟨rk,hr,hI,hm⟩:=run_ok (sc:=sc) hF hfu;obtain ⟨_,w2,w3,w4⟩:=walk (S:=f25_l3.m (par1w g [] sc)) enc1 (fun t=>M.of t.2.2.2.2) (fun _ _=>rfl) (obs1 g) (J1 g) hF (fun o m h ha=>h.next ha.2) (fun o m hI hJ=>l3_step hF hs hI hJ []) hr hI (ob0_j hF) hm;exact ⟨w2,w3,w4⟩
theorem cov1_cov (hF:FitG g D) (hs:sc.length<=9223372036854775807) {fu:Int} (hfu:fu<=1000000):Cov g (cov1 g sc fu):=by
 obtain ⟨h1,h2,h3⟩:=run_end hF hs hfu;refine ⟨h3.pl,h3.wl,?_,fun x hx=> ?_⟩
 · unfold cov1;simp only;split<;>simp
 · unfold cov1 at hx;simp only at hx;split at hx
   · rename_i he;simp at hx;subst hx;exact h2.er he
   · simp at hx
def ofC (g:TGraph) (scs:List (List Int)) (fu:Int):TCover:=scs.foldl (fun c s=>joinC c (cov1 g s fu)) (none0 g)
def ShortL (l:List (List Int)):Prop:=l.length<=9223372036854775807/\∀ i,i<l.length->(gx l i []).length<=9223372036854775807
theorem foldC_cov (hF:FitG g D) {fu:Int} (hfu:fu<=1000000):∀ (l:List (List Int)) (c:TCover),(∀ s∈l,s.length<=9223372036854775807)->Cov g c->Cov g (l.foldl (fun c s=>joinC c (cov1 g s fu)) c)
 |[],c,_,h=>h
 |s::l,c,hl,h=>foldC_cov hF hfu l _ (fun x hx=>hl x (List.mem_cons_of_mem _ hx)) (h.join (cov1_cov hF (hl s List.mem_cons_self) hfu))
theorem ShortL.mem {l:List (List Int)} (h:ShortL l) {s:List Int} (hs:s∈l):s.length<=9223372036854775807:=by
 obtain ⟨i,hi⟩:=List.mem_iff_getElem?.1 hs;have:=h.2 i (getElem?_lt hi)
 rwa [gx_of hi] at this
theorem f12_eq (hF:FitG g D) {fu:Int} (hfu:fu<=1000000) {l:List (List Int)} (hl:ShortL l):f12_m (g,l,fu)=some (ofC g l fu):=by
 have hn:=hl.1;unfold f12_m f12_c;simp only;rw [f14_eq hF,Option.bind_some];have hc:∀ i,Cov g ((l.take i).foldl (fun c s=>joinC c (cov1 g s fu)) (none0 g)):=fun i=>foldC_cov hF hfu _ _ (fun s hs=>hl.mem (List.mem_of_mem_take hs)) (none0_cov g)
 have:=loop_run (step:=f12_l3.m (fu,l,nt l.length,g)) (n:=l.length) (fun i=>((i:Int),(l.take i).foldl (fun c s=>joinC c (cov1 g s fu)) (none0 g))) (ofC g l fu) (by omega) (fun t=>l.length-t.1.toNat) (fun i _=>by simp) (fun i hi=>by
  have h':(i:Int)<(l.length:Int):=by omega
  have w:wi64 ((i:Int)+1)=((i+1:Nat):Int):=by rw [wi64_of (by omega) (by omega)];rfl
  have h1:=f37_eq (g:=g) hF (hl.2 i hi) hfu;have h2:=f23_eq hF.N ((hc i).ok hF) ((cov1_cov hF (hl.2 i hi) hfu).ok hF);simp only [LD.m,f12_l3,nt,h',decide_true,cond_true,inR hi,ask_true,Int.toNat_natCast,w];rw [h1,Option.bind_some,h2,Option.bind_some,take_gx [] hi,List.foldl_append,List.foldl_cons,List.foldl_nil]) (by
  simp only [LD.m,f12_l3,nt,Int.lt_irrefl,decide_false,cond_false,List.take_length];rfl)
 have this':loopAll (f12_l3.m (fu,l,nt l.length,g)) (0,(none0 g).1,(none0 g).2.1,(none0 g).2.2)=some (ofC g l fu):=this;rw [this',Option.bind_some]
theorem f10_eq (fu:Int):∃ r,f10_m fu=some r/\r<=250:=by
 unfold f10_m f10_c;by_cases h:200<fu
 · have h1:=Int.tmod_lt_of_pos fu (show (0:Int)<50 by decide);have h2:=Int.tmod_nonneg 50 (show 0<=fu by omega);have d:¬ (50:Int)=0:=by decide
   refine ⟨wi64 (200+Int.tmod fu 50),?_,?_⟩
   · simp [h]
   · rw [wi64_of (by omega) (by omega)];omega
 · exact ⟨fu,by simp [h],by omega⟩
end
end Go.U
end
section
set_option maxRecDepth 20000
namespace Go.U
open Go
theorem awake:f9_m ()=some true:=by kernel_rfl
section
variable {g:TGraph} {D:List Int} {sc:List Int}
structure Cl (o:Ob1):Prop where
 w:∀ i,gx o.2.1 i false=false->gx o.2.2.1 i (false,false)=(false,false)
 l:0<=o.1->gx o.2.1 o.1.toNat false=true
theorem Cl.next {o:Ob1} {m:M} (hJ:J1 g o) (h:Cl o) (h0:0<=m.at_/\m.at_<(g.1.length:Int)):Cl (obs1 g o m):=by
 have hp:m.at_.toNat<o.2.1.length:=by rw [hJ.pl];omega
 refine ⟨fun i hi=> ?_,fun _=>by simp only [obs1];rw [gx_set hp,if_pos rfl]⟩;simp only [obs1] at hi ⊢;rw [gx_set hp] at hi;by_cases e:m.at_.toNat=i
 · rw [if_pos e] at hi;cases hi
 · rw [if_neg e] at hi;by_cases hl:0<=o.1
   · rw [if_pos hl,gx_set (by rw [hJ.wl];have:=hJ.la;omega)];by_cases e2:o.1.toNat=i
     · have:=h.l hl;rw [e2,hi] at this;cases this
     · rw [if_neg e2];exact h.w i hi
   · rw [if_neg hl];exact h.w i hi
end
end Go.U
end
section
set_option maxRecDepth 20000
namespace Go.U
open Go
theorem okI64 {S:Nat} {n:Int} (h:okC S (.int .i64) n): -9223372036854775808<=n/\n<=9223372036854775807:=by
 have e1:IntKind.i64.min= -9223372036854775808:=by decide
 have e2:IntKind.i64.max=9223372036854775807:=by decide
 obtain ⟨h1,h2⟩:=h;rw [e1] at h1;rw [e2] at h2;exact ⟨h1,h2⟩
theorem maxLen_eq:maxLen=9223372036854775807:=by decide
theorem mem_at {g:TGraph} {j:Nat} (h:j<g.1.length):at' g j∈g.1:=List.mem_of_getElem? (gx_lt (d:=dInstr) h)
theorem lens_of {S:Nat} (hS:S<=maxLen) {g:TGraph} (h:okC S cGraph g):Lens g:=by
 obtain ⟨⟨⟨hi,_⟩,hi2⟩,_,_,_,⟨⟨ha,_⟩,ha2⟩,⟨⟨hs,_⟩,_⟩,⟨⟨hn,_⟩,_⟩,⟨hl,_⟩,_⟩:=h;rw [maxLen_eq] at hS;have hi:=Nat.le_trans hi hS;have ha:=Nat.le_trans ha hS;have hs:=Nat.le_trans hs hS;have hn:=Nat.le_trans hn hS;have hl:=Nat.le_trans hl hS;refine ⟨hi,hs,ha,hn,hl,fun j hj=> ?_⟩;obtain ⟨_,h2,_⟩:=hi2 _ (mem_at hj);exact okI64 h2
theorem len_of {S:Nat} (hS:S<=maxLen) {l:List Int} (h:okC S (.slice (.int .i64)) l):l.length<=9223372036854775807:=by
 rw [maxLen_eq] at hS;exact Nat.le_trans h.1.1 hS
end Go.U
end
