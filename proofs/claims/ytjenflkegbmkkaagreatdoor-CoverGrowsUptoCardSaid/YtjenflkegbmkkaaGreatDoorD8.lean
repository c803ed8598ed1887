/- What these Lean functions compute: plain arithmetic of congruences, the checks of a graph, the values of its registers. -/
import Derived.Test.YtjenflkegbmkkaaGreatDoorD7
set_option linter.unusedVariables false
set_option linter.unusedSimpArgs false
set_option linter.unusedSectionVars false
section
set_option maxRecDepth 20000
namespace Go.U
open Go
def Srt (l:List TAlarm):Prop:=l.Pairwise fun a b=>V.ltA b a=false
theorem srt_sortA (l:List TAlarm):Srt (sortA l):=V.sortBy_sorted V.ltA_tr V.ltA_as l
theorem eqE {l r:List TAlarm} (hl:Srt l) (hr:Srt r) (nl:l.Nodup) (nr:r.Nodup) (h:∀ x,x∈l↔x∈r):l=r:=
 List.Perm.eq_of_pairwise (le:=fun a b=>V.ltA b a=false) (fun a b _ _ h1 h2=>V.ltA_to a b h2 h1) hl hr ((List.perm_ext_iff_of_nodup nl nr).2 h)
structure CovS (g:TGraph) (c:TCover):Prop extends Cov g c where
 s:Srt c.2.2
theorem none0_s (g:TGraph):CovS g (none0 g):=⟨none0_cov g,.nil⟩
theorem CovS.join {g:TGraph} {a b:TCover} (ha:CovS g a) (hb:CovS g b):CovS g (joinC a b):=⟨ha.toCov.join hb.toCov,srt_sortA _⟩
theorem Cov.joinS {g:TGraph} {a b:TCover} (ha:Cov g a) (hb:Cov g b):CovS g (joinC a b):=⟨ha.join hb,srt_sortA _⟩
theorem zip_assoc {α:Type} {f:α->α->α} (hf:∀ x y z,f (f x y) z=f x (f y z)):∀ a b c:List α,List.zipWith f (List.zipWith f a b) c=List.zipWith f a (List.zipWith f b c)
 |[],b,c=>by simp
 |x::a,[],c=>by simp
 |x::a,y::b,[]=>by simp
 |x::a,y::b,z::c=>by simp only [List.zipWith_cons_cons,hf];rw [zip_assoc hf a b c]
theorem zip_unit {α:Type} {f:α->α->α} {e:α} (hf:∀ x,f x e=x):∀ (a:List α) (n:Nat),a.length=n->List.zipWith f a (List.replicate n e)=a
 |[],n,h=>by simp
 |x::a,0,h=>by simp at h
 |x::a,n+1,h=>by rw [List.replicate_succ,List.zipWith_cons_cons,hf x,zip_unit hf a n (by simpa using h)]
theorem orB_assoc (a b c:List Bool):orB (orB a b) c=orB a (orB b c):=zip_assoc Bool.or_assoc a b c
theorem orW_assoc (a b c:List (Bool×Bool)):orW (orW a b) c=orW a (orW b c):=zip_assoc (fun x y z=>by simp only [Bool.or_assoc]) a b c
theorem mem_joinE {a b:TCover} {x:TAlarm}:x∈(joinC a b).2.2↔x∈a.2.2\/x∈b.2.2:=by
 show x∈sortA _↔_;rw [mem_sortA,mem_foldE]
theorem covExt {a b:TCover} (h1:a.1=b.1) (h2:a.2.1=b.2.1) (h3:a.2.2=b.2.2):a=b:=by
 obtain ⟨a1,a2,a3⟩:=a;obtain ⟨b1,b2,b3⟩:=b;simp only at h1 h2 h3;subst h1;subst h2;subst h3;rfl
variable {g:TGraph} {D:List Int}
theorem joinC_assoc {a b c:TCover} (ha:Cov g a) (hb:Cov g b) (hc:Cov g c):joinC (joinC a b) c=joinC a (joinC b c):=
 covExt (orB_assoc _ _ _) (orW_assoc _ _ _) (eqE (srt_sortA _) (srt_sortA _) ((ha.join hb).join hc).nd (ha.join (hb.join hc)).nd fun x=>by
  rw [mem_joinE,mem_joinE,mem_joinE,mem_joinE,or_assoc])
theorem joinC_none {a:TCover} (ha:CovS g a):joinC a (none0 g)=a:=
 covExt (zip_unit (fun x=>Bool.or_false x) _ _ ha.p) (zip_unit (fun x=>by simp) _ _ ha.w) (eqE (srt_sortA _) ha.s (ha.toCov.join (none0_cov g)).nd ha.nd fun x=>by
  rw [mem_joinE];simp [none0])
def ShL (l:List (List Int)):Prop:=∀ s∈l,s.length<=9223372036854775807
theorem foldC_s (hF:FitG g D) {fu:Int} (hfu:fu<=1000000):∀ (l:List (List Int)) (c:TCover),ShL l->CovS g c->CovS g (l.foldl (fun c s=>joinC c (cov1 g s fu)) c)
 |[],c,_,h=>h
 |s::l,c,hl,h=>foldC_s hF hfu l _ (fun x hx=>hl x (List.mem_cons_of_mem _ hx)) (h.toCov.joinS (cov1_cov hF (hl s List.mem_cons_self) hfu))
theorem ofC_s (hF:FitG g D) {fu:Int} (hfu:fu<=1000000) {l:List (List Int)} (hl:ShL l):CovS g (ofC g l fu):=foldC_s hF hfu l _ hl (none0_s g)
theorem foldC_join (hF:FitG g D) {fu:Int} (hfu:fu<=1000000) {X:TCover} (hX:Cov g X):∀ (l:List (List Int)) (Y:TCover),ShL l->Cov g Y->l.foldl (fun c s=>joinC c (cov1 g s fu)) (joinC X Y)=joinC X (l.foldl (fun c s=>joinC c (cov1 g s fu)) Y)
 |[],Y,_,_=>rfl
 |s::l,Y,hl,hY=>by
  have h1:=cov1_cov hF (hl s List.mem_cons_self) hfu;rw [List.foldl_cons,List.foldl_cons,joinC_assoc hX hY h1];exact foldC_join hF hfu hX l _ (fun x hx=>hl x (List.mem_cons_of_mem _ hx)) (hY.join h1)
theorem ofC_append (hF:FitG g D) {fu:Int} (hfu:fu<=1000000) {a b:List (List Int)} (ha:ShL a) (hb:ShL b):ofC g (a++b) fu=joinC (ofC g a fu) (ofC g b fu):=by
 unfold ofC;rw [List.foldl_append];have hA:=ofC_s hF hfu ha;unfold ofC at hA;have:=foldC_join hF hfu hA.toCov b (none0 g) hb (none0_cov g);rw [joinC_none hA] at this;exact this
structure LeC (a b:TCover):Prop where
 p:∀ i,gx a.1 i false=true->gx b.1 i false=true
 w1:∀ i,(gx a.2.1 i (false,false)).1=true->(gx b.2.1 i (false,false)).1=true
 w2:∀ i,(gx a.2.1 i (false,false)).2=true->(gx b.2.1 i (false,false)).2=true
theorem gx_zip {α:Type} {f:α->α->α} {e:α}:∀ (a b:List α) (i:Nat),a.length=b.length->f e e=e->gx (List.zipWith f a b) i e=f (gx a i e) (gx b i e)
 |[],[],i,_,h=>by simp [gx,h]
 |x::a,[],i,h,_=>by simp at h
 |[],y::b,i,h,_=>by simp at h
 |x::a,y::b,0,_,_=>by simp [gx]
 |x::a,y::b,i+1,h,he=>by
  have:=gx_zip a b i (by simpa using h) he
  simpa [gx] using this
theorem gx_orB {a b:List Bool} (h:a.length=b.length) (i:Nat):gx (orB a b) i false=(gx a i false||gx b i false):=gx_zip a b i h rfl
theorem gx_orW {a b:List (Bool×Bool)} (h:a.length=b.length) (i:Nat):gx (orW a b) i (false,false)=((gx a i (false,false)).1||(gx b i (false,false)).1,(gx a i (false,false)).2||(gx b i (false,false)).2):=gx_zip a b i h rfl
theorem LeC.refl (a:TCover):LeC a a:=⟨fun _ h=>h,fun _ h=>h,fun _ h=>h⟩
theorem LeC.trans {a b c:TCover} (h:LeC a b) (h':LeC b c):LeC a c:=⟨fun i k=>h'.p i (h.p i k),fun i k=>h'.w1 i (h.w1 i k),fun i k=>h'.w2 i (h.w2 i k)⟩
theorem LeC.join {a b c d:TCover} (ha:Cov g a) (hb:Cov g b) (hc:Cov g c) (hd:Cov g d) (h:LeC a c) (h':LeC b d):LeC (joinC a b) (joinC c d):=by
 have e1:a.1.length=b.1.length:=ha.p.trans hb.p.symm;have e2:c.1.length=d.1.length:=hc.p.trans hd.p.symm;have e3:a.2.1.length=b.2.1.length:=ha.w.trans hb.w.symm;have e4:c.2.1.length=d.2.1.length:=hc.w.trans hd.w.symm;refine ⟨fun i=> ?_,fun i=> ?_,fun i=> ?_⟩
 · show gx (orB _ _) i false=true->gx (orB _ _) i false=true;rw [gx_orB e1,gx_orB e2,Bool.or_eq_true,Bool.or_eq_true];exact Or.imp (h.p i) (h'.p i)
 · show (gx (orW _ _) i (false,false)).1=true->(gx (orW _ _) i (false,false)).1=true;rw [gx_orW e3,gx_orW e4];simp only [Bool.or_eq_true];exact Or.imp (h.w1 i) (h'.w1 i)
 · show (gx (orW _ _) i (false,false)).2=true->(gx (orW _ _) i (false,false)).2=true;rw [gx_orW e3,gx_orW e4];simp only [Bool.or_eq_true];exact Or.imp (h.w2 i) (h'.w2 i)
end Go.U
end
section
set_option maxRecDepth 20000
namespace Go.U
open Go
abbrev M.up (m:M) (k:Int):M:={ m with fu:=m.fu+k }
def Upd (k:Int) (m1 m2:M):Prop:=m2.en=0->m1=m2.up k
theorem Upd.ite {k:Int} {c:Prop} [Decidable c] {a1 a2 b1 b2:M} (ha:c->Upd k a1 a2) (hb:¬ c->Upd k b1 b2):Upd k (if c then a1 else b1) (if c then a2 else b2):=by
 by_cases h:c
 · rw [if_pos h,if_pos h];exact ha h
 · rw [if_neg h,if_neg h];exact hb h
theorem Upd.cnd {k:Int} {b:Bool} {a1 a2 b1 b2:M} (ha:Upd k a1 a2) (hb:Upd k b1 b2):Upd k (cond b a1 b1) (cond b a2 b2):=by cases b<;>assumption
section
variable {g:TGraph} {sc:List Int} {x:TInstr} {m:M} {k:Int}
theorem stepI_up (hk:0<=k) (h3:0<=m.fu):Upd k (stepI g sc x (m.up k)) (stepI g sc x m):=by
 unfold stepI
 dsimp only [M.up,M.rd]
 have ari:∀ (v:Int) (c:Bool),Upd k (({ m with fu:=m.fu+k }:M).ari x v c) (m.ari x v c):=fun v c=>Upd.cnd (fun _=>rfl) (fun _=>rfl)
 refine Upd.ite (fun _ _=>rfl) fun _=> ?_
 refine Upd.ite (fun _=>ari _ _) fun _=> ?_
 refine Upd.ite (fun _=>ari _ _) fun _=> ?_
 refine Upd.ite (fun _=>ari _ _) fun _=> ?_
 refine Upd.ite (fun _=>ari _ _) fun _=> ?_
 refine Upd.ite (fun _=>ari _ _) fun _=> ?_
 refine Upd.ite (fun _=>Upd.ite (fun _ _=>rfl) fun _=>Upd.ite (fun _ _=>rfl) fun _ _=>rfl) fun _=> ?_
 refine Upd.ite (fun _=>Upd.ite (fun _ _=>rfl) fun _ _=>rfl) fun _=> ?_
 refine Upd.ite (fun _=>ari _ _) fun _=> ?_
 refine Upd.ite (fun _=>ari _ _) fun _=> ?_
 refine Upd.ite (fun _=>Upd.ite (fun _ _=>rfl) fun _ _=>rfl) fun _=> ?_
 refine Upd.ite (fun _=>Upd.ite (fun _ _=>rfl) fun _=>Upd.ite (fun _ _=>rfl) fun _ _=>rfl) fun _=> ?_
 refine Upd.ite (fun _=>Upd.ite (fun _ _=>rfl) fun _ _=>rfl) fun _=> ?_
 refine Upd.ite (fun _=>Upd.ite (fun _ _=>rfl) fun _=>Upd.ite (fun _ _=>rfl) fun _ _=>rfl) fun _=> ?_
 refine Upd.ite (fun _=>Upd.ite (fun _ _=>rfl) fun _ _=>rfl) fun _=> ?_
 have e:∀ z:Int,z+k-1=z-1+k:=fun z=>by omega
 refine Upd.ite (fun _=>Upd.ite (fun _ _=>rfl) fun _=> ?_) fun _=> ?_
 · by_cases h0:m.fu=0
   · rw [if_pos h0];intro h;simp at h
   · rw [if_neg h0,if_neg (show ¬ m.fu+k=0 by omega)];exact Upd.ite (fun _ _=>by rw [e]) fun _ _=>by rw [e]
 refine Upd.ite (fun _ _=>rfl) fun _=> ?_
 refine Upd.ite (fun _=> ?_) fun _=>Upd.ite (fun _ _=>rfl) fun _ _=>rfl
 unfold M.spend
 dsimp only
 by_cases h0:m.fu=0
 · rw [if_pos h0];intro h;simp at h
 · rw [if_neg h0,if_neg (show ¬ m.fu+k=0 by omega)];intro _;rw [e]
end
variable {g:TGraph} {D:List Int} {sc:List Int}
theorem step_up {m:M} {k:Int} (hk:0<=k) (h3:0<=m.fu):Upd k (Go.U.step g sc (m.up k)) (Go.U.step g sc m):=by
 unfold Go.U.step;exact stepI_up (m:=m.to (nx0 (at' g m.at_.toNat))) hk h3
theorem trace_en {n:Nat} {m:M} (h:m.en≠0):trace g sc n m=[]:=by cases n<;>simp [trace,h]
theorem trace_up (hF:FitG g D) {k:Int} (hk:0<=k):∀ (n:Nat) (m:M),Inv g sc m->∃ r,trace g sc n (m.up k)=(trace g sc n m).map (fun m=>m.up k)++r
 |0,m,_=>⟨[],rfl⟩
 |n+1,m,hI=>by
  by_cases h:m.en=0
  · have e1:trace g sc (n+1) (m.up k)=m.up k::trace g sc n (Go.U.step g sc (m.up k)):=by simp only [trace];rw [if_pos h]
    have e2:trace g sc (n+1) m=m::trace g sc n (Go.U.step g sc m):=by simp only [trace];rw [if_pos h]
    rw [e1,e2];by_cases hs:(Go.U.step g sc m).en=0
    · rw [step_up hk hI.fu.1 hs];obtain ⟨r,hr⟩:=trace_up hF hk n _ (hI.nxt hF h).1;exact ⟨r,by rw [hr];rfl⟩
    · rw [trace_en (g:=g) (sc:=sc) hs];exact ⟨trace g sc n (Go.U.step g sc (m.up k)),rfl⟩
  · exact ⟨[],by rw [trace_en (g:=g) (sc:=sc) h,trace_en (g:=g) (sc:=sc) (show (m.up k).en≠0 from h)];rfl⟩
structure LeO (o o':Ob1):Prop where
 p:∀ i,gx o.2.1 i false=true->gx o'.2.1 i false=true
 w1:∀ i,(gx o.2.2.1 i (false,false)).1=true->(gx o'.2.2.1 i (false,false)).1=true
 w2:∀ i,(gx o.2.2.1 i (false,false)).2=true->(gx o'.2.2.1 i (false,false)).2=true
theorem gx_set' {α:Type} {l:List α} {i j:Nat} {x d:α}:gx (l.set i x) j d=if i=j/\i<l.length then x else gx l j d:=by
 simp only [gx,List.getD_eq_getElem?_getD,List.getElem?_set];by_cases h:i=j
 · subst h;by_cases h2:i<l.length
   · simp [h2]
   · simp [h2]
 · simp [h]
theorem leO_next (o:Ob1) (m:M):LeO o (obs1 g o m):=by
 refine ⟨fun i h=> ?_,fun i h=> ?_,fun i h=> ?_⟩
 · show gx (o.2.1.set _ true) i false=true;rw [gx_set'];split
   · rfl
   · exact h
 · show (gx (if 0<=o.1 then _ else _) i (false,false)).1=true;split
   · rw [gx_set'];split
     · rename_i e;rw [e.1];unfold mkw;split
       · rfl
       · exact h
     · exact h
   · exact h
 · show (gx (if 0<=o.1 then _ else _) i (false,false)).2=true;split
   · rw [gx_set'];split
     · rename_i e;rw [e.1];unfold mkw;split
       · exact h
       · rfl
     · exact h
   · exact h
theorem leO_fold:∀ (l:List M) (o:Ob1),LeO o (l.foldl (obs1 g) o)
 |[],o=>⟨fun _ h=>h,fun _ h=>h,fun _ h=>h⟩
 |m::l,o=>by
  have h1:=leO_next (g:=g) o m;have h2:=leO_fold l (obs1 g o m);exact ⟨fun i h=>h2.p i (h1.p i h),fun i h=>h2.w1 i (h1.w1 i h),fun i h=>h2.w2 i (h1.w2 i h)⟩
theorem cov1_le (hF:FitG g D) {fu fu':Int} (hfu:fu<=1000000) (h:max fu 0<=max fu' 0):LeC (cov1 g sc fu) (cov1 g sc fu'):=by
 have e:m0 g fu'=(m0 g fu).up (max fu' 0-max fu 0):=by
  unfold m0 M.up;congr 1;show max fu' 0=max fu 0+(max fu' 0-max fu 0);omega
 obtain ⟨r,hr⟩:=trace_up (sc:=sc) hF (k:=max fu' 0-max fu 0) (by omega) big (m0 g fu) (m0_inv hF sc hfu);have h1:ob1 g sc fu'=r.foldl (obs1 g) (ob1 g sc fu):=by
  unfold ob1 tr;rw [e,hr,List.foldl_append,List.foldl_map];have ef:(fun (x:Ob1) (y:M)=>obs1 g x (y.up (max fu' 0-max fu 0)))=obs1 g:=rfl;rw [ef]
 have h2:=leO_fold (g:=g) r (ob1 g sc fu);rw [<- h1] at h2;exact ⟨h2.p,h2.w1,h2.w2⟩
theorem ofC_le (hF:FitG g D) {fu fu':Int} (hfu:fu<=1000000) (hfu':fu'<=1000000) (h:max fu 0<=max fu' 0) {l:List (List Int)} (hl:ShL l):LeC (ofC g l fu) (ofC g l fu'):=by
 have key:∀ (l:List (List Int)) (c c':TCover),ShL l->Cov g c->Cov g c'->LeC c c'->LeC (l.foldl (fun c s=>joinC c (cov1 g s fu)) c) (l.foldl (fun c s=>joinC c (cov1 g s fu')) c'):=by
  intro l;induction l with
  |nil=>intro c c' _ _ _ h;exact h
  |cons s l ih=>
   intro c c' hl hc hc' hle;have h1:=cov1_cov hF (hl s List.mem_cons_self) hfu;have h2:=cov1_cov hF (hl s List.mem_cons_self) hfu';exact ih _ _ (fun x hx=>hl x (List.mem_cons_of_mem _ hx)) (hc.join h1) (hc'.join h2) (LeC.join hc h1 hc' h2 hle (cov1_le hF hfu h))
 exact key l _ _ hl (none0_cov g) (none0_cov g) (LeC.refl _)
end Go.U
end
section
set_option maxRecDepth 20000
namespace Go.U
open Go
theorem first_bad {ok:Nat->Prop}:∀ n:Nat,(∃ i,i<n/\¬ ok i)->∃ j,j<n/\¬ ok j/\∀ i,i<j->ok i
 |0,⟨i,h,_⟩=>by omega
 |n+1,⟨i,h,hn⟩=>by
  by_cases h':∃ i,i<n/\¬ ok i
  · obtain ⟨j,h1,h2,h3⟩:=first_bad n h';exact ⟨j,by omega,h2,h3⟩
  · have h2:∀ i,i<n->ok i:=fun i hi=>Classical.byContradiction fun hc=>h' ⟨i,hi,hc⟩
    have:i=n:=by
     by_cases e:i=n
     · exact e
     · exact absurd (h2 i (by omega)) hn
    subst this;exact ⟨i,h,hn,h2⟩
theorem loop_srch {T E:Type} {step:T->Option (T ⊕ E)} {n:Nat} (s:Nat->T) (ok:Nat->Prop) (xb xg:E) (hn:n<18446744073709551616) (μ:T->Nat) (hμ:∀ i,i<=n->μ (s i)=n-i)
   (hg:∀ i,i<n->ok i->step (s i)=some (.inl (s (i+1)))) (hb:∀ i,i<n->¬ ok i->step (s i)=some (.inr xb)) (he:step (s n)=some (.inr xg)):
   (loopAll step (s 0)=some xg/\∀ i,i<n->ok i)\/(loopAll step (s 0)=some xb/\∃ i,i<n/\¬ ok i):=by
 by_cases h:∃ i,i<n/\¬ ok i
 · obtain ⟨j,h1,h2,h3⟩:=first_bad n h;exact .inr ⟨loop_run s xb (by omega) (fun t=>μ t-(n-j)) (fun i hi=>by rw [hμ i (by omega)];omega) (fun i hi=>hg i (by omega) (h3 i hi)) (hb j h1 h2),h⟩
 · have h2:∀ i,i<n->ok i:=fun i hi=>Classical.byContradiction fun hc=>h ⟨i,hi,hc⟩
   exact .inl ⟨loop_run s xg hn μ hμ (fun i hi=>hg i hi (h2 i hi)) he,h2⟩
theorem ext_gx {α:Type} (d:α) {a b:List α} (hl:a.length=b.length) (h:∀ i,i<a.length->gx a i d=gx b i d):a=b:=by
 apply List.ext_getElem?;intro i;by_cases hi:i<a.length
 · rw [gx_lt (d:=d) hi,gx_lt (d:=d) (show i<b.length by omega),h i hi]
 · rw [List.getElem?_eq_none (by omega),List.getElem?_eq_none (by omega)]
theorem f13_eq {N:Nat} (hN:N<=4096) {a b:TCover} (ha:CovOK N a) (hb:CovOK N b):f13_m (a.1,a.2.1,a.2.2,b.1,b.2.1,b.2.2)=some (decide (a=b)):=by
 have a1:=ha.p;have a2:=ha.w;have a3:=ha.e;have b1:=hb.p;have b2:=hb.w;have b3:=hb.e;unfold f13_m f13_c;simp only [nt,a1,a2,b1,b2,decide_true,Bool.not_true,cond_false];by_cases hl:a.2.2.length=b.2.2.length
 · have dl:((a.2.2.length:Nat):Int)=(b.2.2.length:Int):=by rw [hl]
   simp only [dl,decide_true,Bool.not_true,cond_false];have s1:=loop_srch (step:=f13_l4.m (a.1,a.2.1,a.2.2,b.1,b.2.1,b.2.2)) (n:=N) (fun i=>(i:Int)) (fun i=>gx a.1 i false=gx b.1 i false/\gx a.2.1 i (false,false)=gx b.2.1 i (false,false)) (.inl ()) (.inr ()) (by omega) (fun t=>N-t.toNat) (fun i _=>by simp) (fun i hi ⟨h1,h2⟩=>by
     have h':(i:Int)<(N:Int):=by omega
     have w:wi64 ((i:Int)+1)=((i+1:Nat):Int):=by rw [wi64_of (by omega) (by omega)];rfl
     simp only [LD.m,f13_l4,nt,a1,h',decide_true,cond_true,inR hi,inR (show i<b.1.length by omega),inR (show i<a.2.1.length by omega),inR (show i<b.2.1.length by omega),ask_true,Int.toNat_natCast,h1,h2,beq_self_eq_true,Bool.and_self,Bool.not_true,cond_false,w]) (fun i hi hne=>by
     have h':(i:Int)<(N:Int):=by omega
     simp only [LD.m,f13_l4,nt,a1,h',decide_true,cond_true,inR hi,inR (show i<b.1.length by omega),inR (show i<a.2.1.length by omega),inR (show i<b.2.1.length by omega),ask_true,Int.toNat_natCast];cases h1:(gx a.1 i false==gx b.1 i false)
     · simp only [Bool.not_false,cond_true]
     · simp only [Bool.not_true,cond_false];have h1':=beq_iff_eq.1 h1;cases h2:((gx a.2.1 i (false,false)).1==(gx b.2.1 i (false,false)).1&&((gx a.2.1 i (false,false)).2==(gx b.2.1 i (false,false)).2&&true))
       · simp only [Bool.not_false,cond_true]
       · simp only [Bool.and_eq_true,beq_iff_eq,and_true] at h2;exact absurd ⟨h1',Prod.ext h2.1 h2.2⟩ hne) (by
     simp only [LD.m,f13_l4,nt,a1,Int.lt_irrefl,decide_false,cond_false])
   have s2:=loop_srch (step:=f13_l9.m (a.1,a.2.1,a.2.2,b.1,b.2.1,b.2.2)) (n:=a.2.2.length) (fun i=>(i:Int)) (fun i=>gx a.2.2 i dAlarm=gx b.2.2 i dAlarm) (.inl ()) (.inr ()) (by omega) (fun t=>a.2.2.length-t.toNat) (fun i _=>by simp) (fun i hi h1=>by
     have h':(i:Int)<(a.2.2.length:Int):=by omega
     have w:wi64 ((i:Int)+1)=((i+1:Nat):Int):=by rw [wi64_of (by omega) (by omega)];rfl
     simp only [LD.m,f13_l9,nt,h',decide_true,cond_true,inR hi,inR (show i<b.2.2.length by omega),ask_true,Int.toNat_natCast,h1,Bool.and_self,Bool.not_true,cond_false,w]) (fun i hi hne=>by
     have h':(i:Int)<(a.2.2.length:Int):=by omega
     simp only [LD.m,f13_l9,nt,h',decide_true,cond_true,inR hi,inR (show i<b.2.2.length by omega),ask_true,Int.toNat_natCast];cases h2:(decide ((gx a.2.2 i dAlarm).1=(gx b.2.2 i dAlarm).1)&&(decide ((gx a.2.2 i dAlarm).2=(gx b.2.2 i dAlarm).2)&&true))
     · simp only [Bool.not_false,cond_true]
     · simp only [Bool.and_eq_true,decide_eq_true_eq,and_true] at h2;exact absurd (Prod.ext h2.1 h2.2) hne) (by
     simp only [LD.m,f13_l9,nt,Int.lt_irrefl,decide_false,cond_false])
   rcases s1 with ⟨e1,h1⟩|⟨e1,i,hi,h1⟩
   · have e1':loopAll (f13_l4.m (a.1,a.2.1,a.2.2,b.1,b.2.1,b.2.2)) 0=some (.inr ()):=e1;rw [e1',Option.bind_some];simp only [Sum.elim_inr];rcases s2 with ⟨e2,h2⟩|⟨e2,i,hi,h2⟩
     · have e2':loopAll (f13_l9.m (a.1,a.2.1,a.2.2,b.1,b.2.1,b.2.2)) 0=some (.inr ()):=e2;rw [e2',Option.bind_some];have:a=b:=covExt (ext_gx false (by omega) fun i hi=>(h1 i (by omega)).1) (ext_gx (false,false) (by omega) fun i hi=>(h1 i (by omega)).2) (ext_gx dAlarm hl h2);rw [decide_eq_true this];rfl
     · have e2':loopAll (f13_l9.m (a.1,a.2.1,a.2.2,b.1,b.2.1,b.2.2)) 0=some (.inl ()):=e2;rw [e2',Option.bind_some];have:¬ a=b:=fun e=>h2 (by rw [e])
       rw [decide_eq_false this];rfl
   · have e1':loopAll (f13_l4.m (a.1,a.2.1,a.2.2,b.1,b.2.1,b.2.2)) 0=some (.inl ()):=e1;rw [e1',Option.bind_some];have:¬ a=b:=fun e=>h1 (by rw [e];exact ⟨rfl,rfl⟩)
     rw [decide_eq_false this];rfl
 · have dl:¬ ((a.2.2.length:Nat):Int)=(b.2.2.length:Int):=by omega
   have:¬ a=b:=fun e=>hl (by rw [e])
   simp only [dl,decide_false,Bool.not_false,cond_true];rw [decide_eq_false this]
end Go.U
end
section
set_option maxRecDepth 20000
namespace Go.U
open Go
theorem f23v2_def (a b:TCover):f23v2_m (a.1,a.2.1,a.2.2,b.1,b.2.1,b.2.2)=f23_m (b,a.1,a.2.1,a.2.2):=by kernel_rfl
theorem f12v1_def (g:TGraph) (fu:Int) (l:List (List Int)):f12v1_m (g,fu,l)=f12_m (g,l,fu):=by kernel_rfl
section
variable (P:List Bool) (W:List (Bool×Bool)) (E:List TAlarm) (P':List Bool) (W':List (Bool×Bool)) (E':List TAlarm) (bl:Bool)
theorem y4_of {k i z1 z2:Int} (h:f50_m ((k,(i,(z1,z2))),P',W',E')=some true):y240002_m (k,i,z1,z2,P',W',E',bl)=some (.inr ()):=by
 have e:y240002_m (k,i,z1,z2,P',W',E',bl)=(f50_m ((k,(i,(z1,z2))),P',W',E')).bind fun r=>cond (!r) (some (.inl ())) (some (.inr ())):=rfl
 rw [e,h];rfl
theorem f69v4l1_eq (hP:P.length<=4096) (h:∀ i,i<P.length->gx P i false=true->i<P'.length/\gx P' i false=true):loopAll (f69v4_l1.m (nt P.length,(P,W,E,P',W',E',bl))) 0=some (.inr ()):=by
 have:=loop_run (step:=f69v4_l1.m (nt P.length,(P,W,E,P',W',E',bl))) (n:=P.length) (fun i=>(i:Int)) (.inr ()) (by omega) (fun t=>P.length-t.toNat) (fun i _=>by simp) (fun i hi=>by
  have h':(i:Int)<(P.length:Int):=by omega
  have w:wi64 ((i:Int)+1)=((i+1:Nat):Int):=by rw [wi64_of (by omega) (by omega)];rfl
  simp only [LD.m,f69v4_l1,nt,h',decide_true,cond_true,inR hi,ask_true,Int.toNat_natCast,w];cases hg:gx P i false
  · simp only [cond_false]
  · obtain ⟨h1,h2⟩:=h i hi hg;simp only [cond_true,y4_of P' W' E' bl (show f50_m ((0,((i:Int),(0,0))),P',W',E')=some true by rw [f50_eq0 i (0,0) P' W' E' h1,h2]),Option.bind_some,Sum.elim_inr]) (by
  simp only [LD.m,f69v4_l1,nt,Int.lt_irrefl,decide_false,cond_false])
 exact this
theorem f69v4l9_eq (i:Nat) (z1 z2:Int) (w:Bool×Bool) (hi:i<W'.length) (h1:w.1=true->(gx W' i (false,false)).1=true) (h2:w.2=true->(gx W' i (false,false)).2=true):loopAll (f69v4_l9.m ((i:Int),z1,z2,w,(P,W,E,P',W',E',bl))) 0=some (.inr ()):=by
 have w0:wi64 ((0:Int)+1)=1:=by decide
 have w1:wi64 ((1:Int)+1)=2:=by decide
 have w2:wi64 ((1:Int)+0)=1:=by decide
 have d0:(0:Int)<2:=by decide
 have d1:(1:Int)<2:=by decide
 have d2:¬ (1:Int)=0:=by decide
 obtain ⟨k1,k2⟩:=f50_eqw i (0,0) P' W' E' hi;have s0:f69v4_l9.m ((i:Int),z1,z2,w,(P,W,E,P',W',E',bl)) 0=some (.inl 1):=by
  simp only [LD.m,f69v4_l9,d0,decide_true,cond_true,w0,w2];cases h:w.1
  · simp only [cond_false]
  · simp only [cond_true,y4_of P' W' E' bl (show f50_m ((1,((i:Int),(0,0))),P',W',E')=some true by rw [k1,h1 h]),Option.bind_some,Sum.elim_inr]
 have s1:f69v4_l9.m ((i:Int),z1,z2,w,(P,W,E,P',W',E',bl)) 1=some (.inl 2):=by
  simp only [LD.m,f69v4_l9,d1,d2,decide_true,decide_false,cond_true,cond_false,w1];cases h:w.2
  · simp only [cond_false]
  · simp only [cond_true,y4_of P' W' E' bl (show f50_m ((2,((i:Int),(0,0))),P',W',E')=some true by rw [k2,h2 h]),Option.bind_some,Sum.elim_inr]
 have s2:f69v4_l9.m ((i:Int),z1,z2,w,(P,W,E,P',W',E',bl)) 2=some (.inr (.inr ())):=by
  simp only [LD.m,f69v4_l9,Int.lt_irrefl,decide_false,cond_false]
 exact loop_run (step:=f69v4_l9.m ((i:Int),z1,z2,w,(P,W,E,P',W',E',bl))) (n:=2) (fun k=>if k=0 then 0 else if k=1 then 1 else 2) (.inr ()) (by decide) (fun t=>2-t.toNat) (fun k hk=>by
  obtain rfl|rfl|rfl:k=0\/k=1\/k=2:=by omega
  · rfl
  · rfl
  · rfl) (fun k hk=>by
  obtain rfl|rfl:k=0\/k=1:=by omega
  · exact s0
  · exact s1) s2
theorem f69v4l6_eq (hW:W.length<=4096) (h:∀ i,i<W.length->i<W'.length/\((gx W i (false,false)).1=true->(gx W' i (false,false)).1=true)/\((gx W i (false,false)).2=true->(gx W' i (false,false)).2=true)):loopAll (f69v4_l6.m (nt W.length,(P,W,E,P',W',E',bl))) 0=some (.inr ()):=by
 have:=loop_run (step:=f69v4_l6.m (nt W.length,(P,W,E,P',W',E',bl))) (n:=W.length) (fun i=>(i:Int)) (.inr ()) (by omega) (fun t=>W.length-t.toNat) (fun i _=>by simp) (fun i hi=>by
  have h':(i:Int)<(W.length:Int):=by omega
  have w:wi64 ((i:Int)+1)=((i+1:Nat):Int):=by rw [wi64_of (by omega) (by omega)];rfl
  obtain ⟨h1,h2,h3⟩:=h i hi;have e:=f69v4l9_eq P W E P' W' E' bl i (nt W.length) (i:Int) (gx W i (false,false)) h1 h2 h3;simp only [nt] at e;simp only [LD.m,f69v4_l6,nt,h',decide_true,cond_true,inR hi,ask_true,Int.toNat_natCast,w];rw [e,Option.bind_some];rfl) (by
  simp only [LD.m,f69v4_l6,nt,Int.lt_irrefl,decide_false,cond_false])
 exact this
theorem f69v4l15_eq (hE:E.length<=1000000) (hE':E'.length<=1000000) (h:∀ x,x∈E->x∈E'):loopAll (f69v4_l15.m (nt E.length,(P,W,E,P',W',E',bl))) 0=some (.inr ()):=by
 have:=loop_run (step:=f69v4_l15.m (nt E.length,(P,W,E,P',W',E',bl))) (n:=E.length) (fun i=>(i:Int)) (.inr ()) (by omega) (fun t=>E.length-t.toNat) (fun i _=>by simp) (fun i hi=>by
  have h':(i:Int)<(E.length:Int):=by omega
  have w:wi64 ((i:Int)+1)=((i+1:Nat):Int):=by rw [wi64_of (by omega) (by omega)];rfl
  have hm:gx E i dAlarm∈E':=h _ (List.mem_of_getElem? (gx_lt (d:=dAlarm) hi));simp only [LD.m,f69v4_l15,nt,h',decide_true,cond_true,inR hi,ask_true,Int.toNat_natCast,w];rw [y4_of P' W' E' bl (show f50_m ((3,(0,((gx E i dAlarm).1,(gx E i dAlarm).2))),P',W',E')=some true by
   have:=f50_eq3 (gx E i dAlarm) 0 P' W' E' (by omega);rw [decide_eq_true hm] at this;exact this),Option.bind_some];rfl) (by
  simp only [LD.m,f69v4_l15,nt,Int.lt_irrefl,decide_false,cond_false])
 exact this
end
theorem f24_le {N:Nat} (hN:N<=4096) {a b:TCover} (ha:CovOK N a) (hb:CovOK N b) (h:LeC a b) (he:∀ x,x∈a.2.2->x∈b.2.2):f24_m (a.1,a.2.1,a.2.2,b.1,b.2.1,b.2.2)=some true:=by
 have a1:=ha.p;have a2:=ha.w;have a3:=ha.e;have b1:=hb.p;have b2:=hb.w;have b3:=hb.e;have e1:=f69v4l1_eq a.1 a.2.1 a.2.2 b.1 b.2.1 b.2.2 false (by omega) fun i hi hg=>⟨by omega,h.p i hg⟩
 have e2:=f69v4l6_eq a.1 a.2.1 a.2.2 b.1 b.2.1 b.2.2 false (by omega) fun i hi=>⟨by omega,h.w1 i,h.w2 i⟩
 have e3:=f69v4l15_eq a.1 a.2.1 a.2.2 b.1 b.2.1 b.2.2 false a3 b3 he;have e:f69v4_m (a.1,a.2.1,a.2.2,b.1,b.2.1,b.2.2,false)=some (.inr ()):=by
  unfold f69v4_m f69v4_c;simp only;rw [e1,Option.bind_some];simp only [Sum.elim_inr];rw [e2,Option.bind_some];simp only [Sum.elim_inr];rw [e3,Option.bind_some];rfl
 unfold f24_m f24_c;simp only [PD.m,f24_q2];rw [e];rfl
end Go.U
end
section
set_option maxRecDepth 20000
namespace Go.U
open Go
theorem leJoin {g:TGraph} {a b:TCover} (ha:Cov g a) (hb:Cov g b):LeC a (joinC a b):=by
 have e1:a.1.length=b.1.length:=ha.p.trans hb.p.symm;have e3:a.2.1.length=b.2.1.length:=ha.w.trans hb.w.symm;refine ⟨fun i h=> ?_,fun i h=> ?_,fun i h=> ?_⟩
 · show gx (orB _ _) i false=true;rw [gx_orB e1,h];rfl
 · show (gx (orW _ _) i (false,false)).1=true;rw [gx_orW e3];simp only [h];rfl
 · show (gx (orW _ _) i (false,false)).2=true;rw [gx_orW e3];simp only [h];rfl
theorem f5l13_eq {N:Nat} (hN:N<=4096) {a b:TCover} (ha:CovOK N a) (hb:CovOK N b) (h:LeC a b):loopAll (f5_l13.m (a,b)) 0=some (.inr ()):=by
 have a1:=ha.p;have a2:=ha.w;have b1:=hb.p;have b2:=hb.w;have:=loop_run (step:=f5_l13.m (a,b)) (n:=N) (fun i=>(i:Int)) (.inr ()) (by omega) (fun t=>N-t.toNat) (fun i _=>by simp) (fun i hi=>by
  have h':(i:Int)<(N:Int):=by omega
  have w:wi64 ((i:Int)+1)=((i+1:Nat):Int):=by rw [wi64_of (by omega) (by omega)];rfl
  have p:=h.p i;have p1:=h.w1 i;have p2:=h.w2 i;simp only [LD.m,f5_l13,nt,a1,h',decide_true,cond_true,inR hi,inR (show i<b.1.length by omega),inR (show i<a.2.1.length by omega),inR (show i<b.2.1.length by omega),ask_true,Int.toNat_natCast,w];cases k1:gx a.1 i false<;>cases k2:(gx a.2.1 i (false,false)).1<;>cases k3:(gx a.2.1 i (false,false)).2<;>simp only [k1,k2,k3,forall_const] at p p1 p2<;>simp only [p,p1,p2,cond_true,cond_false,Bool.not_true]) (by
  simp only [LD.m,f5_l13,nt,a1,Int.lt_irrefl,decide_false,cond_false])
 exact this
theorem shL_of {S:Nat} (hS:S<=maxLen) {l:List (List Int)} (h:okC S (.slice (.slice (.int .i64))) l):ShL l:=fun s hs=>len_of hS (h.2 s hs)
theorem shortL_of {l:List (List Int)} (hn:l.length<=9223372036854775807) (h:ShL l):ShortL l:=⟨hn,fun i hi=>h _ (List.mem_of_getElem? (gx_lt (d:=[]) hi))⟩
theorem math5 (g:TGraph) (a b:List (List Int)) (fu:Int) (hL:Lens g) (ha:ShL a) (hb:ShL b) (na:a.length<=1048576) (nb:b.length<=1048576):f5_m (g,a,b,fu)=some true:=by
 unfold f5_m f5_c;obtain ⟨r,hr,hfit⟩:=f8_eq hL;simp only;rw [hr,Option.bind_some];cases r
 · simp only [Bool.not_false,cond_true];rw [awake];rfl
 obtain ⟨D,hF⟩:=hfit rfl;have hN:=hF.N;obtain ⟨f,hf,hf2⟩:=f10_eq fu;simp only [Bool.not_true,cond_false];rw [hf,Option.bind_some];refine (ask_eq (b:=decide (a.length * 24<=70368744177664)&&decide (a.length<9223372036854775808)) (by simp only [Bool.and_eq_true,decide_eq_true_eq];omega)).trans ?_;refine (ask_eq (b:=decide ((a.length+b.length) * 24<=70368744177664)&&decide (a.length+b.length<9223372036854775808)) (by simp only [Bool.and_eq_true,decide_eq_true_eq];omega)).trans ?_;have hab:ShL (a++b):=fun s hs=>by
   rcases List.mem_append.1 hs with h|h
   · exact ha s h
   · exact hb s h
 have hf3:f<=1000000:=by omega
 have wz:wi64 ((if 0>f then 0 else f)+20)=max f 0+20:=by rw [max_eq,wi64_of (by omega) (by omega)]
 have hz:max f 0+20<=1000000:=by omega
 have ca:=ofC_s hF hf3 ha;have cb:=ofC_s hF hf3 hb;have cz:=ofC_s hF hz ha;have cab:=ofC_s hF hf3 hab;have hap:=ofC_append hF hf3 ha hb;have hle:=ofC_le hF hf3 hz (by omega) ha;rw [f12_eq hF hf3 (shortL_of (by omega) ha),Option.bind_some,f12v1_def,f12_eq hF hf3 (shortL_of (by rw [List.length_append];omega) hab),Option.bind_some,wz,f12_eq hF hz (shortL_of (by omega) ha),Option.bind_some,f12_eq hF hf3 (shortL_of (by omega) hb),Option.bind_some];generalize ofC g a f=x at *
 generalize ofC g b f=y at *
 generalize ofC g a (max f 0+20)=z at *
 rw [hap] at cab ⊢;have okx:=ca.toCov.ok hF;have oky:=cb.toCov.ok hF;have okz:=cz.toCov.ok hF;have okj:=cab.toCov.ok hF;rw [f23v2_def,f23_eq hN okx oky,Option.bind_some,f13_eq hN okj okj,Option.bind_some,decide_eq_true rfl];simp only [Bool.not_true,cond_false];rw [f24_le hN okx okj (leJoin ca.toCov cb.toCov) (fun e he=>mem_joinE.2 (.inl he)),Option.bind_some];simp only [Bool.not_true,cond_false,nt,okx.p,okz.p,decide_true];rw [f5l13_eq hN okx okz hle,Option.bind_some];simp only [Sum.elim_inr];rw [awake];rfl
theorem law5 (g:TGraph) (a b:List (List Int)) (fu:Int) (h0:okC 1048576 cGraph g) (h1:okC 1048576 (.slice (.slice (.int .i64))) a) (h2:okC 1048576 (.slice (.slice (.int .i64))) b) (h3:okC 1048576 (.int .i64) fu):f5_m (g,a,b,fu)=some true:=
 math5 g a b fu (lens_of (by decide) h0) (shL_of (by decide) h1) (shL_of (by decide) h2) h1.1.1 h2.1.1
end Go.U
end
