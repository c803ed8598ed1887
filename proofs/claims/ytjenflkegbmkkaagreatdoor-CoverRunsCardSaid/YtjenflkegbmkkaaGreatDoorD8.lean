/- What these Lean functions compute: plain arithmetic of congruences, the checks of a graph, the values of its registers. -/
import Derived.Test.YtjenflkegbmkkaaGreatDoorD7
set_option linter.unusedVariables false
set_option linter.unusedSimpArgs false
set_option linter.unusedSectionVars false
open Bool renaming or_eq_true→Yh,not_true→Zf,not_false→gf,and_eq_true→Va
open Classical renaming byContradiction→Uo
open Int renaming toNat_natCast→La,lt_irrefl→Xb
open List renaming mem_cons_of_mem→Wb,mem_cons_self→Ad,getElem?_eq_none→Ab
open Option renaming bind_some→ga
section
set_option maxRecDepth 20000
namespace Go.U
open Go
def r_(l:List Aa):Prop:=l.Pairwise fun a b=>V.Ft b a=false
theorem dx(l:List Aa):r_ (Mh l):=V.Am V.EL V.Ix l
theorem eqE{l r:List Aa}(hl:r_ l)(hr:r_ r)(nl:l.Nodup)(nr:r.Nodup)(h:∀x,x∈l↔x∈r):l=r:=
 List.Perm.eq_of_pairwise (le:=fun a b=>V.Ft b a=false) (fun a b _ _ h1 h2=>V.FL a b h2 h1) hl hr ((List.perm_ext_iff_of_nodup nl nr).2 h)
structure gI(g:Ga)(c:vb):Prop extends Cov g c where
 s:r_ c.2.2
theorem Z3(g:Ga):gI g (af g):=⟨Er g,.nil⟩
theorem gI.join{g:Ga}{a b:vb}(ha:gI g a)(hb:gI g b):gI g (uj a b):=⟨ha.toCov.join hb.toCov,dx _⟩
theorem Cov.baf{g:Ga}{a b:vb}(ha:Cov g a)(hb:Cov g b):gI g (uj a b):=⟨ha.join hb,dx _⟩
theorem pR{a b:vb}{x:Aa}:x∈(uj a b).2.2↔x∈a.2.2\/x∈b.2.2:=by
 show x∈Mh _↔_;rw[FE,Dx]
theorem S0{a b:vb}(h1:a.1=b.1)(h2:a.2.1=b.2.1)(h3:a.2.2=b.2.2):a=b:=by
 obtain⟨a1,a2,a3⟩:=a;obtain⟨b1,b2,b3⟩:=b;simp only at h1 h2 h3;subst h1;subst h2;subst h3;rfl
variable {g:Ga}{D:List Int}
def ShL(l:List (List Int)):Prop:=∀s∈l,s.length<=9223372036854775807
theorem EO(hF:Mf g D){fu:Int}(Ll:fu<=1000000):∀(l:List (List Int))(c:vb),ShL l->gI g c->gI g (l.foldl (fun c s=>uj c (Ew g s fu)) c)
 |[],c,_,h=>h
 |s::l,c,hl,h=>EO hF Ll l _ (fun x hx=>hl x (Wb _ hx)) (h.toCov.baf (Dw hF (hl s Ad) Ll))
theorem Qae(hF:Mf g D){fu:Int}(Ll:fu<=1000000){l:List (List Int)}(hl:ShL l):gI g (O7 g l fu):=EO hF Ll l _ hl (Z3 g)
structure X2(a b:vb):Prop where
 p:∀i,gx a.1 i false=true->gx b.1 i false=true
 w1:∀i,(gx a.2.1 i (false,false)).1=true->(gx b.2.1 i (false,false)).1=true
 w2:∀i,(gx a.2.1 i (false,false)).2=true->(gx b.2.1 i (false,false)).2=true
theorem gM{α:Type}{f:α->α->α}{e:α}:∀(a b:List α)(i:Nat),a.length=b.length->f e e=e->gx (List.zipWith f a b) i e=f (gx a i e) (gx b i e)
 |[],[],i,_,h=>by simp[gx,h]
 |x::a,[],i,h,_=>by simp at h
 |[],y::b,i,h,_=>by simp at h
 |x::a,y::b,0,_,_=>by simp[gx]
 |x::a,y::b,i+1,h,he=>by
  have:=gM a b i (by simpa using h) he
  simpa[gx]using this
theorem nW{a b:List Bool}(h:a.length=b.length)(i:Nat):gx (Dt a b) i false=(gx a i false||gx b i false):=gM a b i h rfl
theorem CG{a b:List (Bool×Bool)}(h:a.length=b.length)(i:Nat):gx (Cr a b) i (false,false)=((gx a i (false,false)).1||(gx b i (false,false)).1,(gx a i (false,false)).2||(gx b i (false,false)).2):=gM a b i h rfl
theorem X2.refl(a:vb):X2 a a:=⟨fun _ h=>h,fun _ h=>h,fun _ h=>h⟩
theorem X2.trans{a b c:vb}(h:X2 a b)(h':X2 b c):X2 a c:=⟨fun i k=>h'.p i (h.p i k),fun i k=>h'.w1 i (h.w1 i k),fun i k=>h'.w2 i (h.w2 i k)⟩
theorem X2.join{a b c d:vb}(ha:Cov g a)(hb:Cov g b)(hc:Cov g c)(hd:Cov g d)(h:X2 a c)(h':X2 b d):X2 (uj a b) (uj c d):=by
 have e1:a.1.length=b.1.length:=ha.p.trans hb.p.symm;have e2:c.1.length=d.1.length:=hc.p.trans hd.p.symm;have e3:a.2.1.length=b.2.1.length:=ha.w.trans hb.w.symm;have e4:c.2.1.length=d.2.1.length:=hc.w.trans hd.w.symm;refine⟨fun i=> ?_,fun i=> ?_,fun i=> ?_⟩
 ·show gx (Dt _ _) i false=true->gx (Dt _ _) i false=true;rw[nW e1,nW e2,Yh,Yh];exact Or.imp (h.p i) (h'.p i)
 ·show(gx (Cr _ _) i (false,false)).1=true->(gx (Cr _ _) i (false,false)).1=true;rw[CG e3,CG e4];simp only[Yh];exact Or.imp (h.w1 i) (h'.w1 i)
 ·show(gx (Cr _ _) i (false,false)).2=true->(gx (Cr _ _) i (false,false)).2=true;rw[CG e3,CG e4];simp only[Yh];exact Or.imp (h.w2 i) (h'.w2 i)
end Go.U
end
section
set_option maxRecDepth 20000
namespace Go.U
open Go
abbrev M.up(m:M)(k:Int):M:={ m with fu:=m.fu+k }
section
variable {g:Ga}{sc:List Int}{x:Wa}{m:M}{k:Int}
end
variable {g:Ga}{D:List Int}{sc:List Int}
structure LeO(o o':UK):Prop where
 p:∀i,gx o.2.1 i false=true->gx o'.2.1 i false=true
 w1:∀i,(gx o.2.2.1 i (false,false)).1=true->(gx o'.2.2.1 i (false,false)).1=true
 w2:∀i,(gx o.2.2.1 i (false,false)).2=true->(gx o'.2.2.1 i (false,false)).2=true
end Go.U
end
section
set_option maxRecDepth 20000
namespace Go.U
open Go
theorem VE{ok:Nat->Prop}:∀n:Nat,(∃i,i<n/\¬ok i)->∃j,j<n/\¬ok j/\∀i,i<j->ok i
 |0,⟨i,h,_⟩=>by omega
 |n+1,⟨i,h,hn⟩=>by
  by_cases h':∃i,i<n/\¬ok i
  ·obtain⟨j,h1,h2,h3⟩:=VE n h';exact⟨j,by omega,h2,h3⟩
  ·have h2:∀i,i<n->ok i:=fun i hi=>Uo fun hc=>h' ⟨i,hi,hc⟩
   have:i=n:=by
    by_cases e:i=n
    ·exact e
    ·exact absurd (h2 i (by omega)) hn
   subst this;exact⟨i,h,hn,h2⟩
theorem HE{T E:Type}{step:T->Option (T ⊕ E)}{n:Nat}(s:Nat->T)(ok:Nat->Prop)(xb xg:E)(hn:n<18446744073709551616)(μ:T->Nat)(R7:∀i,i<=n->μ (s i)=n-i)
  (hg:∀i,i<n->ok i->step (s i)=some (.inl (s (i+1)))) (hb:∀i,i<n->¬ok i->step (s i)=some (.inr xb)) (he:step (s n)=some (.inr xg)):
  (Ma step (s 0)=some xg/\∀i,i<n->ok i)\/(Ma step (s 0)=some xb/\∃i,i<n/\¬ok i):=by
 by_cases h:∃i,i<n/\¬ok i
 ·obtain⟨j,h1,h2,h3⟩:=VE n h;exact .inr ⟨Xc s xb (by omega) (fun t=>μ t-(n-j)) (fun i hi=>by rw[R7 i (by omega)];omega) (fun i hi=>hg i (by omega) (h3 i hi)) (hb j h1 h2),h⟩
 ·have h2:∀i,i<n->ok i:=fun i hi=>Uo fun hc=>h ⟨i,hi,hc⟩
  exact .inl ⟨Xc s xg hn μ R7 (fun i hi=>hg i hi (h2 i hi)) he,h2⟩
theorem kN{α:Type}(d:α){a b:List α}(hl:a.length=b.length)(h:∀i,i<a.length->gx a i d=gx b i d):a=b:=by
 apply List.ext_getElem?;intro i;by_cases hi:i<a.length
 ·rw[gp (d:=d) hi,gp (d:=d) (show i<b.length by omega),h i hi]
 ·rw[Ab (by omega),Ab (by omega)]
theorem iN{N:Nat}(hN:N<=4096){a b:vb}(ha:Ti N a)(hb:Ti N b):kz (a.1,a.2.1,a.2.2,b.1,b.2.1,b.2.2)=some (decide (a=b)):=by
 have a1:=ha.p;have a2:=ha.w;have a3:=ha.e;have b1:=hb.p;have b2:=hb.w;have b3:=hb.e;unfold kz fQ;simp only[nt,a1,a2,b1,b2,decide_true,Zf,cond_false];by_cases hl:a.2.2.length=b.2.2.length
 ·have dl:((a.2.2.length:Nat):Int)=(b.2.2.length:Int):=by rw[hl]
  simp only[dl,decide_true,Zf,cond_false];have s1:=HE (step:=Lm.m (a.1,a.2.1,a.2.2,b.1,b.2.1,b.2.2)) (n:=N) (fun i=>(i:Int)) (fun i=>gx a.1 i false=gx b.1 i false/\gx a.2.1 i (false,false)=gx b.2.1 i (false,false)) (.inl ()) (.inr ()) (by omega) (fun t=>N-t.toNat) (fun i _=>by simp) (fun i hi⟨h1,h2⟩=>by
   have h':(i:Int)<(N:Int):=by omega
   have w:Ea ((i:Int)+1)=((i+1:Nat):Int):=by rw[Qb (by omega) (by omega)];rfl
   simp only[LD.m,Lm,nt,a1,h',decide_true,cond_true,fg hi,fg (show i<b.1.length by omega),fg (show i<a.2.1.length by omega),fg (show i<b.2.1.length by omega),Oa,La,h1,h2,beq_self_eq_true,Bool.and_self,Zf,cond_false,w]) (fun i hi Uc=>by
   have h':(i:Int)<(N:Int):=by omega
   simp only[LD.m,Lm,nt,a1,h',decide_true,cond_true,fg hi,fg (show i<b.1.length by omega),fg (show i<a.2.1.length by omega),fg (show i<b.2.1.length by omega),Oa,La];cases h1:(gx a.1 i false==gx b.1 i false)
   ·simp only[gf,cond_true]
   ·simp only[Zf,cond_false];have nD:=beq_iff_eq.1 h1;cases h2:((gx a.2.1 i (false,false)).1==(gx b.2.1 i (false,false)).1&&((gx a.2.1 i (false,false)).2==(gx b.2.1 i (false,false)).2&&true))
    ·simp only[gf,cond_true]
    ·simp only[Va,beq_iff_eq,and_true]at h2;exact absurd ⟨nD,Prod.ext h2.1 h2.2⟩ Uc) (by
   simp only[LD.m,Lm,nt,a1,Xb,decide_false,cond_false])
  have s2:=HE (step:=Km.m (a.1,a.2.1,a.2.2,b.1,b.2.1,b.2.2)) (n:=a.2.2.length) (fun i=>(i:Int)) (fun i=>gx a.2.2 i Fb=gx b.2.2 i Fb) (.inl ()) (.inr ()) (by omega) (fun t=>a.2.2.length-t.toNat) (fun i _=>by simp) (fun i hi h1=>by
   have h':(i:Int)<(a.2.2.length:Int):=by omega
   have w:Ea ((i:Int)+1)=((i+1:Nat):Int):=by rw[Qb (by omega) (by omega)];rfl
   simp only[LD.m,Km,nt,h',decide_true,cond_true,fg hi,fg (show i<b.2.2.length by omega),Oa,La,h1,Bool.and_self,Zf,cond_false,w]) (fun i hi Uc=>by
   have h':(i:Int)<(a.2.2.length:Int):=by omega
   simp only[LD.m,Km,nt,h',decide_true,cond_true,fg hi,fg (show i<b.2.2.length by omega),Oa,La];cases h2:(decide ((gx a.2.2 i Fb).1=(gx b.2.2 i Fb).1)&&(decide ((gx a.2.2 i Fb).2=(gx b.2.2 i Fb).2)&&true))
   ·simp only[gf,cond_true]
   ·simp only[Va,decide_eq_true_eq,and_true]at h2;exact absurd (Prod.ext h2.1 h2.2) Uc) (by
   simp only[LD.m,Km,nt,Xb,decide_false,cond_false])
  rcases s1 with⟨e1,h1⟩|⟨e1,i,hi,h1⟩
  ·have e1':Ma (Lm.m (a.1,a.2.1,a.2.2,b.1,b.2.1,b.2.2)) 0=some (.inr ()):=e1;rw[e1',ga];simp only[Sum.elim_inr];rcases s2 with⟨e2,h2⟩|⟨e2,i,hi,h2⟩
   ·have e2':Ma (Km.m (a.1,a.2.1,a.2.2,b.1,b.2.1,b.2.2)) 0=some (.inr ()):=e2;rw[e2',ga];have:a=b:=S0 (kN false (by omega) fun i hi=>(h1 i (by omega)).1) (kN (false,false) (by omega) fun i hi=>(h1 i (by omega)).2) (kN Fb hl h2);rw[decide_eq_true this];rfl
   ·have e2':Ma (Km.m (a.1,a.2.1,a.2.2,b.1,b.2.1,b.2.2)) 0=some (.inl ()):=e2;rw[e2',ga];have:¬a=b:=fun e=>h2 (by rw[e])
    rw[decide_eq_false this];rfl
  ·have e1':Ma (Lm.m (a.1,a.2.1,a.2.2,b.1,b.2.1,b.2.2)) 0=some (.inl ()):=e1;rw[e1',ga];have:¬a=b:=fun e=>h1 (by rw[e];exact⟨rfl,rfl⟩)
   rw[decide_eq_false this];rfl
 ·have dl:¬((a.2.2.length:Nat):Int)=(b.2.2.length:Int):=by omega
  have:¬a=b:=fun e=>hl (by rw[e])
  simp only[dl,decide_false,gf,cond_true];rw[decide_eq_false this]
end Go.U
end
section
set_option maxRecDepth 20000
namespace Go.U
open Go
section
variable (P:List Bool)(W:List (Bool×Bool))(E:List Aa)(P':List Bool)(W':List (Bool×Bool))(E':List Aa)(bl:Bool)
end
end Go.U
end
