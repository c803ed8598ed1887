/- What these Lean functions compute: plain arithmetic of congruences, the checks of a graph, the values of its registers. -/
import Derived.Test.YtjenflkegbmkkaaGreatDoorD7
set_option linter.unusedVariables false
set_option linter.unusedSimpArgs false
set_option linter.unusedSectionVars false
open Bool renaming or_eq_true→Ff,not_true→Xl,not_false→Ve,and_eq_true→Ia
open Classical renaming byContradiction→Cf
open Int renaming toNat_natCast→Ca,lt_irrefl→Mb
open List renaming zipWith→cE,mem_cons_of_mem→Gb,mem_cons_self→zc,getElem?_eq_none→mb,mem_iff_getElem?→GB,mem_of_getElem?→jb
open Option renaming bind_some→da
open Sum renaming elim_inr→qt
section
set_option maxRecDepth 20000
namespace Go.U
open Go
def Srt (l:List Ra):Prop:=l.Pairwise fun a b=>V.ey b a=false
theorem qq (l:List Ra):Srt (Xg l):=V.Yi V.lT V.UJ l
theorem eqE {l r:List Ra} (hl:Srt l) (hr:Srt r) (nl:l.Nodup) (nr:r.Nodup) (h:∀ x,x∈l↔x∈r):l=r:=
 List.Perm.eq_of_pairwise (le:=fun a b=>V.ey b a=false) (fun a b _ _ h1 h2=>V.TJ a b h2 h1) hl hr ((List.perm_ext_iff_of_nodup nl nr).2 h)
structure Bi (g:Ba) (c:Pa):Prop extends Cov g c where
 s:Srt c.2.2
theorem Hy (g:Ba):Bi g (Df g):=⟨LC g,.nil⟩
theorem Bi.join {g:Ba} {a b:Pa} (ha:Bi g a) (hb:Bi g b):Bi g (ee a b):=⟨ha.toCov.join hb.toCov,qq _⟩
theorem Cov.pac {g:Ba} {a b:Pa} (ha:Cov g a) (hb:Cov g b):Bi g (ee a b):=⟨ha.join hb,qq _⟩
theorem uz {α:Type} {f:α->α->α} (hf:∀ x y,f x y=f y x):∀ a b:List α,cE f a b=cE f b a
 |[],b=>by simp
 |x::a,[]=>by simp
 |x::a,y::b=>by simp only [List.zipWith_cons_cons];rw [hf x y,uz hf a b]
theorem VS (a b:List Bool):Vw a b=Vw b a:=uz Bool.or_comm a b
theorem SS (a b:List (Bool×Bool)):Ks a b=Ks b a:=uz (fun x y=>by simp only [Bool.or_comm]) a b
theorem Bq {a b:Pa} {x:Ra}:x∈(ee a b).2.2↔x∈a.2.2\/x∈b.2.2:=by
 show x∈Xg _↔_;rw [QC,om]
theorem QL {a b:Pa} (h1:a.1=b.1) (h2:a.2.1=b.2.1) (h3:a.2.2=b.2.2):a=b:=by
 obtain ⟨a1,a2,a3⟩:=a;obtain ⟨b1,b2,b3⟩:=b;simp only at h1 h2 h3;subst h1;subst h2;subst h3;rfl
variable {g:Ba} {D:List Int}
theorem aK {a b:Pa} (ha:Cov g a) (hb:Cov g b):ee a b=ee b a:=
 QL (VS _ _) (SS _ _) (eqE (qq _) (qq _) (ha.join hb).nd (hb.join ha).nd fun x=>by
  rw [Bq,Bq,or_comm])
def kS (l:List (List Int)):Prop:=∀ s∈l,s.length<=9223372036854775807
theorem WM (hF:Ng g D) {fu:Int} (Ci:fu<=1000000):∀ (l:List (List Int)) (c:Pa),kS l->Bi g c->Bi g (l.foldl (fun c s=>ee c (Vs g s fu)) c)
 |[],c,_,h=>h
 |s::l,c,hl,h=>WM hF Ci l _ (fun x hx=>hl x (Gb _ hx)) (h.toCov.pac (Pu hF (hl s zc) Ci))
theorem ZS (hF:Ng g D) {fu:Int} (Ci:fu<=1000000) {l:List (List Int)} (hl:kS l):Bi g (QJ g l fu):=WM hF Ci l _ hl (Hy g)
structure LeC (a b:Pa):Prop where
 p:∀ i,gx a.1 i false=true->gx b.1 i false=true
 w1:∀ i,(gx a.2.1 i (false,false)).1=true->(gx b.2.1 i (false,false)).1=true
 w2:∀ i,(gx a.2.1 i (false,false)).2=true->(gx b.2.1 i (false,false)).2=true
theorem uK {α:Type} {f:α->α->α} {e:α}:∀ (a b:List α) (i:Nat),a.length=b.length->f e e=e->gx (cE f a b) i e=f (gx a i e) (gx b i e)
 |[],[],i,_,h=>by simp [gx,h]
 |x::a,[],i,h,_=>by simp at h
 |[],y::b,i,h,_=>by simp at h
 |x::a,y::b,0,_,_=>by simp [gx]
 |x::a,y::b,i+1,h,he=>by
  have:=uK a b i (by simpa using h) he
  simpa [gx] using this
theorem vA {a b:List Bool} (h:a.length=b.length) (i:Nat):gx (Vw a b) i false=(gx a i false||gx b i false):=uK a b i h rfl
theorem Bn {a b:List (Bool×Bool)} (h:a.length=b.length) (i:Nat):gx (Ks a b) i (false,false)=((gx a i (false,false)).1||(gx b i (false,false)).1,(gx a i (false,false)).2||(gx b i (false,false)).2):=uK a b i h rfl
theorem LeC.refl (a:Pa):LeC a a:=⟨fun _ h=>h,fun _ h=>h,fun _ h=>h⟩
theorem LeC.trans {a b c:Pa} (h:LeC a b) (h':LeC b c):LeC a c:=⟨fun i k=>h'.p i (h.p i k),fun i k=>h'.w1 i (h.w1 i k),fun i k=>h'.w2 i (h.w2 i k)⟩
theorem LeC.join {a b c d:Pa} (ha:Cov g a) (hb:Cov g b) (hc:Cov g c) (hd:Cov g d) (h:LeC a c) (h':LeC b d):LeC (ee a b) (ee c d):=by
 have e1:a.1.length=b.1.length:=ha.p.trans hb.p.symm;have e2:c.1.length=d.1.length:=hc.p.trans hd.p.symm;have e3:a.2.1.length=b.2.1.length:=ha.w.trans hb.w.symm;have e4:c.2.1.length=d.2.1.length:=hc.w.trans hd.w.symm;refine ⟨fun i=> ?_,fun i=> ?_,fun i=> ?_⟩
 · show gx (Vw _ _) i false=true->gx (Vw _ _) i false=true;rw [vA e1,vA e2,Ff,Ff];exact Or.imp (h.p i) (h'.p i)
 · show (gx (Ks _ _) i (false,false)).1=true->(gx (Ks _ _) i (false,false)).1=true;rw [Bn e3,Bn e4];simp only [Ff];exact Or.imp (h.w1 i) (h'.w1 i)
 · show (gx (Ks _ _) i (false,false)).2=true->(gx (Ks _ _) i (false,false)).2=true;rw [Bn e3,Bn e4];simp only [Ff];exact Or.imp (h.w2 i) (h'.w2 i)
end Go.U
end
section
set_option maxRecDepth 20000
namespace Go.U
open Go
abbrev M.up (m:M) (k:Int):M:={ m with fu:=m.fu+k }
section
variable {g:Ba} {sc:List Int} {x:Fb} {m:M} {k:Int}
end
variable {g:Ba} {D:List Int} {sc:List Int}
structure LeO (o o':VR):Prop where
 p:∀ i,gx o.2.1 i false=true->gx o'.2.1 i false=true
 w1:∀ i,(gx o.2.2.1 i (false,false)).1=true->(gx o'.2.2.1 i (false,false)).1=true
 w2:∀ i,(gx o.2.2.1 i (false,false)).2=true->(gx o'.2.2.1 i (false,false)).2=true
end Go.U
end
section
set_option maxRecDepth 20000
namespace Go.U
open Go
theorem ow {ok:Nat->Prop}:∀ n:Nat,(∃ i,i<n/\¬ ok i)->∃ j,j<n/\¬ ok j/\∀ i,i<j->ok i
 |0,⟨i,h,_⟩=>by omega
 |n+1,⟨i,h,hn⟩=>by
  by_cases h':∃ i,i<n/\¬ ok i
  · obtain ⟨j,h1,h2,h3⟩:=ow n h';exact ⟨j,by omega,h2,h3⟩
  · have h2:∀ i,i<n->ok i:=fun i hi=>Cf fun hc=>h' ⟨i,hi,hc⟩
    have:i=n:=by
     by_cases e:i=n
     · exact e
     · exact absurd (h2 i (by omega)) hn
    subst this;exact ⟨i,h,hn,h2⟩
theorem Xv {T E:Type} {step:T->Option (T ⊕ E)} {n:Nat} (s:Nat->T) (ok:Nat->Prop) (xb xg:E) (hn:n<18446744073709551616) (μ:T->Nat) (gZ:∀ i,i<=n->μ (s i)=n-i)
   (hg:∀ i,i<n->ok i->step (s i)=some (.inl (s (i+1)))) (hb:∀ i,i<n->¬ ok i->step (s i)=some (.inr xb)) (he:step (s n)=some (.inr xg)):
   (Oa step (s 0)=some xg/\∀ i,i<n->ok i)\/(Oa step (s 0)=some xb/\∃ i,i<n/\¬ ok i):=by
 by_cases h:∃ i,i<n/\¬ ok i
 · obtain ⟨j,h1,h2,h3⟩:=ow n h;exact .inr ⟨Md s xb (by omega) (fun t=>μ t-(n-j)) (fun i hi=>by rw [gZ i (by omega)];omega) (fun i hi=>hg i (by omega) (h3 i hi)) (hb j h1 h2),h⟩
 · have h2:∀ i,i<n->ok i:=fun i hi=>Cf fun hc=>h ⟨i,hi,hc⟩
   exact .inl ⟨Md s xg hn μ gZ (fun i hi=>hg i hi (h2 i hi)) he,h2⟩
theorem UA {α:Type} (d:α) {a b:List α} (hl:a.length=b.length) (h:∀ i,i<a.length->gx a i d=gx b i d):a=b:=by
 apply List.ext_getElem?;intro i;by_cases hi:i<a.length
 · rw [jh (d:=d) hi,jh (d:=d) (show i<b.length by omega),h i hi]
 · rw [mb (by omega),mb (by omega)]
theorem Haa {N:Nat} (hN:N<=4096) {a b:Pa} (ha:oo N a) (hb:oo N b):CD (a.1,a.2.1,a.2.2,b.1,b.2.1,b.2.2)=some (decide (a=b)):=by
 have a1:=ha.p;have a2:=ha.w;have a3:=ha.e;have b1:=hb.p;have b2:=hb.w;have b3:=hb.e;unfold CD jO;simp only [nt,a1,a2,b1,b2,decide_true,Xl,cond_false];by_cases hl:a.2.2.length=b.2.2.length
 · have dl:((a.2.2.length:Nat):Int)=(b.2.2.length:Int):=by rw [hl]
   simp only [dl,decide_true,Xl,cond_false];have s1:=Xv (step:=Tl.m (a.1,a.2.1,a.2.2,b.1,b.2.1,b.2.2)) (n:=N) (fun i=>(i:Int)) (fun i=>gx a.1 i false=gx b.1 i false/\gx a.2.1 i (false,false)=gx b.2.1 i (false,false)) (.inl ()) (.inr ()) (by omega) (fun t=>N-t.toNat) (fun i _=>by simp) (fun i hi ⟨h1,h2⟩=>by
     have h':(i:Int)<(N:Int):=by omega
     have w:Ga ((i:Int)+1)=((i+1:Nat):Int):=by rw [Sb (by omega) (by omega)];rfl
     simp only [LD.m,Tl,nt,a1,h',decide_true,cond_true,Rh hi,Rh (show i<b.1.length by omega),Rh (show i<a.2.1.length by omega),Rh (show i<b.2.1.length by omega),Xa,Ca,h1,h2,beq_self_eq_true,Bool.and_self,Xl,cond_false,w]) (fun i hi Nc=>by
     have h':(i:Int)<(N:Int):=by omega
     simp only [LD.m,Tl,nt,a1,h',decide_true,cond_true,Rh hi,Rh (show i<b.1.length by omega),Rh (show i<a.2.1.length by omega),Rh (show i<b.2.1.length by omega),Xa,Ca];cases h1:(gx a.1 i false==gx b.1 i false)
     · simp only [Ve,cond_true]
     · simp only [Xl,cond_false];have YB:=beq_iff_eq.1 h1;cases h2:((gx a.2.1 i (false,false)).1==(gx b.2.1 i (false,false)).1&&((gx a.2.1 i (false,false)).2==(gx b.2.1 i (false,false)).2&&true))
       · simp only [Ve,cond_true]
       · simp only [Ia,beq_iff_eq,and_true] at h2;exact absurd ⟨YB,Prod.ext h2.1 h2.2⟩ Nc) (by
     simp only [LD.m,Tl,nt,a1,Mb,decide_false,cond_false])
   have s2:=Xv (step:=Sl.m (a.1,a.2.1,a.2.2,b.1,b.2.1,b.2.2)) (n:=a.2.2.length) (fun i=>(i:Int)) (fun i=>gx a.2.2 i Zb=gx b.2.2 i Zb) (.inl ()) (.inr ()) (by omega) (fun t=>a.2.2.length-t.toNat) (fun i _=>by simp) (fun i hi h1=>by
     have h':(i:Int)<(a.2.2.length:Int):=by omega
     have w:Ga ((i:Int)+1)=((i+1:Nat):Int):=by rw [Sb (by omega) (by omega)];rfl
     simp only [LD.m,Sl,nt,h',decide_true,cond_true,Rh hi,Rh (show i<b.2.2.length by omega),Xa,Ca,h1,Bool.and_self,Xl,cond_false,w]) (fun i hi Nc=>by
     have h':(i:Int)<(a.2.2.length:Int):=by omega
     simp only [LD.m,Sl,nt,h',decide_true,cond_true,Rh hi,Rh (show i<b.2.2.length by omega),Xa,Ca];cases h2:(decide ((gx a.2.2 i Zb).1=(gx b.2.2 i Zb).1)&&(decide ((gx a.2.2 i Zb).2=(gx b.2.2 i Zb).2)&&true))
     · simp only [Ve,cond_true]
     · simp only [Ia,decide_eq_true_eq,and_true] at h2;exact absurd (Prod.ext h2.1 h2.2) Nc) (by
     simp only [LD.m,Sl,nt,Mb,decide_false,cond_false])
   rcases s1 with ⟨e1,h1⟩|⟨e1,i,hi,h1⟩
   · have Q3:Oa (Tl.m (a.1,a.2.1,a.2.2,b.1,b.2.1,b.2.2)) 0=some (.inr ()):=e1;rw [Q3,da];simp only [qt];rcases s2 with ⟨e2,h2⟩|⟨e2,i,hi,h2⟩
     · have e2':Oa (Sl.m (a.1,a.2.1,a.2.2,b.1,b.2.1,b.2.2)) 0=some (.inr ()):=e2;rw [e2',da];have:a=b:=QL (UA false (by omega) fun i hi=>(h1 i (by omega)).1) (UA (false,false) (by omega) fun i hi=>(h1 i (by omega)).2) (UA Zb hl h2);rw [decide_eq_true this];rfl
     · have e2':Oa (Sl.m (a.1,a.2.1,a.2.2,b.1,b.2.1,b.2.2)) 0=some (.inl ()):=e2;rw [e2',da];have:¬ a=b:=fun e=>h2 (by rw [e])
       rw [decide_eq_false this];rfl
   · have Q3:Oa (Tl.m (a.1,a.2.1,a.2.2,b.1,b.2.1,b.2.2)) 0=some (.inl ()):=e1;rw [Q3,da];have:¬ a=b:=fun e=>h1 (by rw [e];exact ⟨rfl,rfl⟩)
     rw [decide_eq_false this];rfl
 · have dl:¬ ((a.2.2.length:Nat):Int)=(b.2.2.length:Int):=by omega
   have:¬ a=b:=fun e=>hl (by rw [e])
   simp only [dl,decide_false,Ve,cond_true];rw [decide_eq_false this]
end Go.U
end
section
set_option maxRecDepth 20000
namespace Go.U
open Go
theorem DD (g:Ba) (fu:Int) (l:List (List Int)):Yq (g,fu,l)=jo (g,l,fu):=by kernel_rfl
theorem Tt {T E:Type} {step:T->Option (T ⊕ E)} {n:Nat} (s:Nat->T) (ok:Nat->Bool) (xb xg:E) (hn:n<18446744073709551616) (μ:T->Nat) (gZ:∀ i,i<=n->μ (s i)=n-i)
   (hs:∀ i,i<n->step (s i)=some (cond (ok i) (.inl (s (i+1))) (.inr xb))) (he:step (s n)=some (.inr xg)):
   ∃ b,Oa step (s 0)=some (cond b xg xb)/\(b=true↔∀ i,i<n->ok i=true):=by
 rcases Xv (step:=step) s (fun i=>ok i=true) xb xg hn μ gZ (fun i hi h=>by rw [hs i hi,h];rfl) (fun i hi h=>by rw [hs i hi,Bool.eq_false_iff.2 h];rfl) he with ⟨h1,h2⟩|⟨h1,i,hi,h2⟩
 · exact ⟨true,h1,fun _=>h2,fun _=>rfl⟩
 · exact ⟨false,h1,fun h=>(by cases h),fun h=>absurd (h i hi) h2⟩
section
variable (P:List Bool) (W:List (Bool×Bool)) (E:List Ra) (P':List Bool) (W':List (Bool×Bool)) (E':List Ra) (bl:Bool)
theorem FZ {k i z1 z2:Int} {b:Bool} (h:Kg ((k,(i,(z1,z2))),P',W',E')=some b):Eh (k,i,z1,z2,P',W',E',bl)=some (cond b (.inr ()) (.inl ())):=by
 have e:Eh (k,i,z1,z2,P',W',E',bl)=(Kg ((k,(i,(z1,z2))),P',W',E')).bind fun r=>cond (!r) (some (.inl ())) (some (.inr ())):=rfl
 rw [e,h];cases b<;>rfl
theorem EK (hP:P.length<=4096) (hl:P'.length=P.length):∃ b,Oa (qj.m (nt P.length,(P,W,E,P',W',E',bl))) 0=some (cond b (.inr ()) (.inl ()))/\(b=true↔∀ i,i<P.length->(!gx P i false||gx P' i false)=true):=
 Tt (step:=qj.m (nt P.length,(P,W,E,P',W',E',bl))) (n:=P.length) (fun i=>(i:Int)) (fun i=> !gx P i false||gx P' i false) (.inl ()) (.inr ()) (by omega) (fun t=>P.length-t.toNat) (fun i _=>by simp) (fun i hi=>by
  have h':(i:Int)<(P.length:Int):=by omega
  have w:Ga ((i:Int)+1)=((i+1:Nat):Int):=by rw [Sb (by omega) (by omega)];rfl
  simp only [LD.m,qj,nt,h',decide_true,cond_true,Rh hi,Xa,Ca,w];cases hg:gx P i false
  · simp only [cond_false,Ve,Bool.true_or,cond_true]
  · rw [cond_true,FZ P' W' E' bl (show Kg ((0,((i:Int),(0,0))),P',W',E')=some (gx P' i false) from FN i (0,0) P' W' E' (by omega)),da,Xl,Bool.false_or];cases gx P' i false<;>rfl) (by
  simp only [LD.m,qj,nt,Mb,decide_false,cond_false])
theorem CK (i:Nat) (z1 z2:Int) (w:Bool×Bool) (hi:i<W'.length):Oa (Jf.m ((i:Int),z1,z2,w,(P,W,E,P',W',E',bl))) 0=some (cond ((!w.1||(gx W' i (false,false)).1)&&(!w.2||(gx W' i (false,false)).2)) (.inr ()) (.inl ())):=by
 have w0:Ga ((0:Int)+1)=1:=by decide
 have w1:Ga ((1:Int)+1)=2:=by decide
 have w2:Ga ((1:Int)+0)=1:=by decide
 have d0:(0:Int)<2:=by decide
 have d1:(1:Int)<2:=by decide
 have d2:¬ (1:Int)=0:=by decide
 obtain ⟨k1,k2⟩:=EN i (0,0) P' W' E' hi;generalize (gx W' i (false,false)).1=g1 at *
 generalize (gx W' i (false,false)).2=g2 at *
 have s0:Jf.m ((i:Int),z1,z2,w,(P,W,E,P',W',E',bl)) 0=some (cond (!w.1||g1) (.inl 1) (.inr (.inl ()))):=by
  simp only [LD.m,Jf,d0,decide_true,cond_true,w0,w2];cases w.1
  · rfl
  · rw [cond_true,FZ P' W' E' bl k1,da];cases g1<;>rfl
 have s1:Jf.m ((i:Int),z1,z2,w,(P,W,E,P',W',E',bl)) 1=some (cond (!w.2||g2) (.inl 2) (.inr (.inl ()))):=by
  simp only [LD.m,Jf,d1,d2,decide_true,decide_false,cond_true,cond_false,w1];cases w.2
  · rfl
  · rw [cond_true,FZ P' W' E' bl k2,da];cases g2<;>rfl
 have s2:Jf.m ((i:Int),z1,z2,w,(P,W,E,P',W',E',bl)) 2=some (.inr (.inr ())):=by
  simp only [LD.m,Jf,Mb,decide_false,cond_false]
 obtain ⟨b,h1,h2⟩:=Tt (step:=Jf.m ((i:Int),z1,z2,w,(P,W,E,P',W',E',bl))) (n:=2) (fun k=>(k:Int)) (fun k=>if k=0 then !w.1||g1 else !w.2||g2) (.inl ()) (.inr ()) (by decide) (fun t=>2-t.toNat) (fun k hk=>by simp) (fun k hk=>by
  obtain rfl|rfl:k=0\/k=1:=by omega
  · exact s0
  · exact s1) s2
 have h1:Oa (Jf.m ((i:Int),z1,z2,w,(P,W,E,P',W',E',bl))) 0=_:=h1;have e:((!w.1||g1)&&(!w.2||g2))=b:=by
  have:b=true↔((!w.1||g1)&&(!w.2||g2))=true:=by
    rw [h2,Ia];exact ⟨fun h=>⟨h 0 (by decide),h 1 (by decide)⟩,fun h k hk=>by
     obtain rfl|rfl:k=0\/k=1:=by omega
     · exact h.1
     · exact h.2⟩
  exact (Bool.eq_iff_iff.2 this).symm
 rw [h1,e]
theorem DK (hW:W.length<=4096) (hl:W'.length=W.length):∃ b,Oa (nj.m (nt W.length,(P,W,E,P',W',E',bl))) 0=some (cond b (.inr ()) (.inl ()))/\(b=true↔∀ i,i<W.length->((!(gx W i (false,false)).1||(gx W' i (false,false)).1)&&(!(gx W i (false,false)).2||(gx W' i (false,false)).2))=true):=
 Tt (step:=nj.m (nt W.length,(P,W,E,P',W',E',bl))) (n:=W.length) (fun i=>(i:Int)) (fun i=>(!(gx W i (false,false)).1||(gx W' i (false,false)).1)&&(!(gx W i (false,false)).2||(gx W' i (false,false)).2)) (.inl ()) (.inr ()) (by omega) (fun t=>W.length-t.toNat) (fun i _=>by simp) (fun i hi=>by
  have h':(i:Int)<(W.length:Int):=by omega
  have w:Ga ((i:Int)+1)=((i+1:Nat):Int):=by rw [Sb (by omega) (by omega)];rfl
  have e:=CK P W E P' W' E' bl i (nt W.length) (i:Int) (gx W i (false,false)) (by omega);simp only [nt] at e;simp only [LD.m,nj,nt,h',decide_true,cond_true,Rh hi,Xa,Ca,w];rw [e,da];cases ((!(gx W i (false,false)).1||(gx W' i (false,false)).1)&&(!(gx W i (false,false)).2||(gx W' i (false,false)).2))<;>rfl) (by
  simp only [LD.m,nj,nt,Mb,decide_false,cond_false])
theorem dI (hE:E.length<=1000000) (hE':E'.length<=1000000):∃ b,Oa (Kh.m (nt E.length,(P,W,E,P',W',E',bl))) 0=some (cond b (.inr ()) (.inl ()))/\(b=true↔∀ i,i<E.length->decide (gx E i Zb∈E')=true):=
 Tt (step:=Kh.m (nt E.length,(P,W,E,P',W',E',bl))) (n:=E.length) (fun i=>(i:Int)) (fun i=>decide (gx E i Zb∈E')) (.inl ()) (.inr ()) (by omega) (fun t=>E.length-t.toNat) (fun i _=>by simp) (fun i hi=>by
  have h':(i:Int)<(E.length:Int):=by omega
  have w:Ga ((i:Int)+1)=((i+1:Nat):Int):=by rw [Sb (by omega) (by omega)];rfl
  simp only [LD.m,Kh,nt,h',decide_true,cond_true,Rh hi,Xa,Ca,w];rw [FZ P' W' E' bl (show Kg ((3,(0,((gx E i Zb).1,(gx E i Zb).2))),P',W',E')=some (decide (gx E i Zb∈E')) from NF (gx E i Zb) 0 P' W' E' (by omega)),da];cases decide (gx E i Zb∈E')<;>rfl) (by
  simp only [LD.m,Kh,nt,Mb,decide_false,cond_false])
end
theorem wA {α:Type} {l:List α} {i:Nat} {d:α} (h:l.length<=i):gx l i d=d:=by simp [gx,List.getD,h]
theorem VC {a b:Bool}:(!a||b)=true↔(a=true->b=true):=by cases a<;>cases b<;>simp
theorem zaa {N:Nat} (hN:N<=4096) {a b:Pa} (ha:oo N a) (hb:oo N b):∃ r,OA (a.1,a.2.1,a.2.2,b.1,b.2.1,b.2.2)=some r/\(r=true↔LeC a b/\∀ x,x∈a.2.2->x∈b.2.2):=by
 have a1:=ha.p;have a2:=ha.w;have a3:=ha.e;have b1:=hb.p;have b2:=hb.w;have b3:=hb.e;obtain ⟨r1,e1,h1⟩:=EK a.1 a.2.1 a.2.2 b.1 b.2.1 b.2.2 false (by omega) (by omega);obtain ⟨r2,e2,h2⟩:=DK a.1 a.2.1 a.2.2 b.1 b.2.1 b.2.2 false (by omega) (by omega);obtain ⟨r3,e3,h3⟩:=dI a.1 a.2.1 a.2.2 b.1 b.2.1 b.2.2 false a3 b3;have e:OA (a.1,a.2.1,a.2.2,b.1,b.2.1,b.2.2)=some (r1&&(r2&&r3)):=by
   have e':Sq (a.1,a.2.1,a.2.2,b.1,b.2.1,b.2.2,false)=some (cond (r1&&(r2&&r3)) (.inr ()) (.inl ())):=by
     unfold Sq Zy;simp only;rw [e1,da];cases r1
     · rfl
     simp only [cond_true,qt];rw [e2,da];cases r2
     · rfl
     simp only [cond_true,qt];rw [e3,da];cases r3<;>rfl
   unfold OA XN;simp only [PD.m,NA];rw [e'];cases (r1&&(r2&&r3))<;>rfl
 refine ⟨_,e,?_⟩;rw [Ia,Ia,h1,h2,h3];constructor
 · rintro ⟨k1,k2,k3⟩
   refine ⟨⟨fun i h=> ?_,fun i h=> ?_,fun i h=> ?_⟩,fun x hx=> ?_⟩
   · by_cases hi:i<a.1.length
     · exact VC.1 (k1 i hi) h
     · rw [wA (by omega)] at h;cases h
   · by_cases hi:i<a.2.1.length
     · exact VC.1 (Ia _ _ ▸ k2 i hi).1 h
     · rw [wA (by omega)] at h;cases h
   · by_cases hi:i<a.2.1.length
     · exact VC.1 (Ia _ _ ▸ k2 i hi).2 h
     · rw [wA (by omega)] at h;cases h
   · obtain ⟨j,hj⟩:=GB.1 hx;have:=of_decide_eq_true (k3 j (Ua hj))
     rwa [lp hj] at this
 · rintro ⟨k,k3⟩
   exact ⟨fun i _=>VC.2 (k.p i),fun i _=>by rw [Ia];exact ⟨VC.2 (k.w1 i),VC.2 (k.w2 i)⟩,fun i hi=>decide_eq_true (k3 _ (jb (jh (d:=Zb) hi)))⟩
end Go.U
end
