/- What these Lean functions compute: plain arithmetic of congruences, the checks of a graph, the values of its registers. -/
import Derived.Test.YtjenflkegbmkkaaGreatDoorD7
set_option linter.unusedVariables false
set_option linter.unusedSimpArgs false
set_option linter.unusedSectionVars false
open Bool renaming or_eq_true→Pf,not_true→nh,not_false→we,and_eq_true→Na,true_or→Qj
open Classical renaming byContradiction→Lf
open Int renaming toNat_natCast→Ca,lt_irrefl→Pb
open List renaming zipWith→Ny,getElem?_eq_none→Ab,mem_of_getElem?→Db
open Option renaming bind_some→ga
section
set_option maxRecDepth 20000
namespace Go.U
open Go
def Srt(l:List za):Prop:=l.Pairwise fun a b=>V.Mt b a=false
theorem Sr(l:List za):Srt (qh l):=V.yj V.tM V.Rx l
theorem eqE{l r:List za}(hl:Srt l)(hr:Srt r)(nl:l.Nodup)(nr:r.Nodup)(h:∀x,x∈l↔x∈r):l=r:=
 List.Perm.eq_of_pairwise (le:=fun a b=>V.Mt b a=false) (fun a b _ _ h1 h2=>V.uM a b h2 h1) hl hr ((List.perm_ext_iff_of_nodup nl nr).2 h)
structure Jk(g:Ga)(c:Pa):Prop extends Cov g c where
 s:Srt c.2.2
theorem OG(g:Ga):Jk g (oe g):=⟨YR g,.nil⟩
theorem Jk.join{g:Ga}{a b:Pa}(ha:Jk g a)(hb:Jk g b):Jk g (vf a b):=⟨ha.toCov.join hb.toCov,Sr _⟩
theorem QA{α:Type}{f:α->α->α}(hf:∀x y,f x y=f y x):∀a b:List α,Ny f a b=Ny f b a
 |[],b=>by simp
 |x::a,[]=>by simp
 |x::a,y::b=>by simp only[List.zipWith_cons_cons];rw[hf x y,QA hf a b]
theorem dW(a b:List Bool):Xp a b=Xp b a:=QA Bool.or_comm a b
theorem bW(a b:List (Bool×Bool)):sn a b=sn b a:=QA (fun x y=>by simp only[Bool.or_comm]) a b
theorem Gn{a b:Pa}{x:za}:x∈(vf a b).2.2↔x∈a.2.2\/x∈b.2.2:=by
 show x∈qh _↔_;rw[eF,Jn]
theorem yI{a b:Pa}(h1:a.1=b.1)(h2:a.2.1=b.2.1)(h3:a.2.2=b.2.2):a=b:=by
 obtain⟨a1,a2,a3⟩:=a;obtain⟨b1,b2,b3⟩:=b;simp only at h1 h2 h3;subst h1;subst h2;subst h3;rfl
variable {g:Ga}{D:List Int}
theorem BM{a b:Pa}(ha:Cov g a)(hb:Cov g b):vf a b=vf b a:=
 yI (dW _ _) (bW _ _) (eqE (Sr _) (Sr _) (ha.join hb).nd (hb.join ha).nd fun x=>by
  rw[Gn,Gn,or_comm])
def ShL(l:List (List Int)):Prop:=∀s∈l,s.length<=9223372036854775807
structure LeC(a b:Pa):Prop where
 p:∀i,gx a.1 i false=true->gx b.1 i false=true
 w1:∀i,(gx a.2.1 i (false,false)).1=true->(gx b.2.1 i (false,false)).1=true
 w2:∀i,(gx a.2.1 i (false,false)).2=true->(gx b.2.1 i (false,false)).2=true
theorem UM{α:Type}{f:α->α->α}{e:α}:∀(a b:List α)(i:Nat),a.length=b.length->f e e=e->gx (Ny f a b) i e=f (gx a i e) (gx b i e)
 |[],[],i,_,h=>by simp[gx,h]
 |x::a,[],i,h,_=>by simp at h
 |[],y::b,i,h,_=>by simp at h
 |x::a,y::b,0,_,_=>by simp[gx]
 |x::a,y::b,i+1,h,he=>by
  have:=UM a b i (by simpa using h) he
  simpa[gx]using this
theorem SB{a b:List Bool}(h:a.length=b.length)(i:Nat):gx (Xp a b) i false=(gx a i false||gx b i false):=UM a b i h rfl
theorem To{a b:List (Bool×Bool)}(h:a.length=b.length)(i:Nat):gx (sn a b) i (false,false)=((gx a i (false,false)).1||(gx b i (false,false)).1,(gx a i (false,false)).2||(gx b i (false,false)).2):=UM a b i h rfl
theorem LeC.refl(a:Pa):LeC a a:=⟨fun _ h=>h,fun _ h=>h,fun _ h=>h⟩
theorem LeC.trans{a b c:Pa}(h:LeC a b)(h':LeC b c):LeC a c:=⟨fun i k=>h'.p i (h.p i k),fun i k=>h'.w1 i (h.w1 i k),fun i k=>h'.w2 i (h.w2 i k)⟩
theorem LeC.join{a b c d:Pa}(ha:Cov g a)(hb:Cov g b)(hc:Cov g c)(hd:Cov g d)(h:LeC a c)(h':LeC b d):LeC (vf a b) (vf c d):=by
 have e1:a.1.length=b.1.length:=ha.p.trans hb.p.symm;have e2:c.1.length=d.1.length:=hc.p.trans hd.p.symm;have e3:a.2.1.length=b.2.1.length:=ha.w.trans hb.w.symm;have e4:c.2.1.length=d.2.1.length:=hc.w.trans hd.w.symm;refine⟨fun i=> ?_,fun i=> ?_,fun i=> ?_⟩
 ·show gx (Xp _ _) i false=true->gx (Xp _ _) i false=true;rw[SB e1,SB e2,Pf,Pf];exact Or.imp (h.p i) (h'.p i)
 ·show(gx (sn _ _) i (false,false)).1=true->(gx (sn _ _) i (false,false)).1=true;rw[To e3,To e4];simp only[Pf];exact Or.imp (h.w1 i) (h'.w1 i)
 ·show(gx (sn _ _) i (false,false)).2=true->(gx (sn _ _) i (false,false)).2=true;rw[To e3,To e4];simp only[Pf];exact Or.imp (h.w2 i) (h'.w2 i)
end Go.U
end
section
set_option maxRecDepth 20000
namespace Go.U
open Go
abbrev M.up(m:M)(k:Int):M:={ m with fu:=m.fu+k }
section
variable {g:Ga}{sc:List Int}{x:Wa}{m:M}{k:Int}
end
variable {g:Ga}{D:List Int}{sc:List Int}
structure LeO(o o':LL):Prop where
 p:∀i,gx o.2.1 i false=true->gx o'.2.1 i false=true
 w1:∀i,(gx o.2.2.1 i (false,false)).1=true->(gx o'.2.2.1 i (false,false)).1=true
 w2:∀i,(gx o.2.2.1 i (false,false)).2=true->(gx o'.2.2.1 i (false,false)).2=true
end Go.U
end
section
set_option maxRecDepth 20000
namespace Go.U
open Go
theorem gy{ok:Nat->Prop}:∀n:Nat,(∃i,i<n/\¬ok i)->∃j,j<n/\¬ok j/\∀i,i<j->ok i
 |0,⟨i,h,_⟩=>by omega
 |n+1,⟨i,h,hn⟩=>by
  by_cases h':∃i,i<n/\¬ok i
  ·obtain⟨j,h1,h2,h3⟩:=gy n h';exact⟨j,by omega,h2,h3⟩
  ·have h2:∀i,i<n->ok i:=fun i hi=>Lf fun hc=>h' ⟨i,hi,hc⟩
   have:i=n:=by
    by_cases e:i=n
    ·exact e
    ·exact absurd (h2 i (by omega)) hn
   subst this;exact⟨i,h,hn,h2⟩
theorem Tx{T E:Type}{step:T->Option (T ⊕ E)}{n:Nat}(s:Nat->T)(ok:Nat->Prop)(xb xg:E)(hn:n<18446744073709551616)(μ:T->Nat)(D4:∀i,i<=n->μ (s i)=n-i)
  (hg:∀i,i<n->ok i->step (s i)=some (.inl (s (i+1)))) (hb:∀i,i<n->¬ok i->step (s i)=some (.inr xb)) (he:step (s n)=some (.inr xg)):
  (Ia step (s 0)=some xg/\∀i,i<n->ok i)\/(Ia step (s 0)=some xb/\∃i,i<n/\¬ok i):=by
 by_cases h:∃i,i<n/\¬ok i
 ·obtain⟨j,h1,h2,h3⟩:=gy n h;exact .inr ⟨Bc s xb (by omega) (fun t=>μ t-(n-j)) (fun i hi=>by rw[D4 i (by omega)];omega) (fun i hi=>hg i (by omega) (h3 i hi)) (hb j h1 h2),h⟩
 ·have h2:∀i,i<n->ok i:=fun i hi=>Lf fun hc=>h ⟨i,hi,hc⟩
  exact .inl ⟨Bc s xg hn μ D4 (fun i hi=>hg i hi (h2 i hi)) he,h2⟩
theorem Cy{α:Type}(d:α){a b:List α}(hl:a.length=b.length)(h:∀i,i<a.length->gx a i d=gx b i d):a=b:=by
 apply List.ext_getElem?;intro i;by_cases hi:i<a.length
 ·rw[Li (d:=d) hi,Li (d:=d) (show i<b.length by omega),h i hi]
 ·rw[Ab (by omega),Ab (by omega)]
theorem gae{N:Nat}(hN:N<=4096){a b:Pa}(ha:fk N a)(hb:fk N b):UF (a.1,a.2.1,a.2.2,b.1,b.2.1,b.2.2)=some (decide (a=b)):=by
 have a1:=ha.p;have a2:=ha.w;have a3:=ha.e;have b1:=hb.p;have b2:=hb.w;have b3:=hb.e;unfold UF TQ;simp only[nt,a1,a2,b1,b2,decide_true,nh,cond_false];by_cases hl:a.2.2.length=b.2.2.length
 ·have dl:((a.2.2.length:Nat):Int)=(b.2.2.length:Int):=by rw[hl]
  simp only[dl,decide_true,nh,cond_false];have s1:=Tx (step:=kn.m (a.1,a.2.1,a.2.2,b.1,b.2.1,b.2.2)) (n:=N) (fun i=>(i:Int)) (fun i=>gx a.1 i false=gx b.1 i false/\gx a.2.1 i (false,false)=gx b.2.1 i (false,false)) (.inl ()) (.inr ()) (by omega) (fun t=>N-t.toNat) (fun i _=>by simp) (fun i hi⟨h1,h2⟩=>by
   have h':(i:Int)<(N:Int):=by omega
   have w:Ea ((i:Int)+1)=((i+1:Nat):Int):=by rw[Lb (by omega) (by omega)];rfl
   simp only[LD.m,kn,nt,a1,h',decide_true,cond_true,ag hi,ag (show i<b.1.length by omega),ag (show i<a.2.1.length by omega),ag (show i<b.2.1.length by omega),Ma,Ca,h1,h2,beq_self_eq_true,Bool.and_self,nh,cond_false,w]) (fun i hi Sc=>by
   have h':(i:Int)<(N:Int):=by omega
   simp only[LD.m,kn,nt,a1,h',decide_true,cond_true,ag hi,ag (show i<b.1.length by omega),ag (show i<a.2.1.length by omega),ag (show i<b.2.1.length by omega),Ma,Ca];cases h1:(gx a.1 i false==gx b.1 i false)
   ·simp only[we,cond_true]
   ·simp only[nh,cond_false];have ID:=beq_iff_eq.1 h1;cases h2:((gx a.2.1 i (false,false)).1==(gx b.2.1 i (false,false)).1&&((gx a.2.1 i (false,false)).2==(gx b.2.1 i (false,false)).2&&true))
    ·simp only[we,cond_true]
    ·simp only[Na,beq_iff_eq,and_true]at h2;exact absurd ⟨ID,Prod.ext h2.1 h2.2⟩ Sc) (by
   simp only[LD.m,kn,nt,a1,Pb,decide_false,cond_false])
  have s2:=Tx (step:=jn.m (a.1,a.2.1,a.2.2,b.1,b.2.1,b.2.2)) (n:=a.2.2.length) (fun i=>(i:Int)) (fun i=>gx a.2.2 i vb=gx b.2.2 i vb) (.inl ()) (.inr ()) (by omega) (fun t=>a.2.2.length-t.toNat) (fun i _=>by simp) (fun i hi h1=>by
   have h':(i:Int)<(a.2.2.length:Int):=by omega
   have w:Ea ((i:Int)+1)=((i+1:Nat):Int):=by rw[Lb (by omega) (by omega)];rfl
   simp only[LD.m,jn,nt,h',decide_true,cond_true,ag hi,ag (show i<b.2.2.length by omega),Ma,Ca,h1,Bool.and_self,nh,cond_false,w]) (fun i hi Sc=>by
   have h':(i:Int)<(a.2.2.length:Int):=by omega
   simp only[LD.m,jn,nt,h',decide_true,cond_true,ag hi,ag (show i<b.2.2.length by omega),Ma,Ca];cases h2:(decide ((gx a.2.2 i vb).1=(gx b.2.2 i vb).1)&&(decide ((gx a.2.2 i vb).2=(gx b.2.2 i vb).2)&&true))
   ·simp only[we,cond_true]
   ·simp only[Na,decide_eq_true_eq,and_true]at h2;exact absurd (Prod.ext h2.1 h2.2) Sc) (by
   simp only[LD.m,jn,nt,Pb,decide_false,cond_false])
  rcases s1 with⟨e1,h1⟩|⟨e1,i,hi,h1⟩
  ·have e1':Ia (kn.m (a.1,a.2.1,a.2.2,b.1,b.2.1,b.2.2)) 0=some (.inr ()):=e1;rw[e1',ga];simp only[Sum.elim_inr];rcases s2 with⟨e2,h2⟩|⟨e2,i,hi,h2⟩
   ·have e2':Ia (jn.m (a.1,a.2.1,a.2.2,b.1,b.2.1,b.2.2)) 0=some (.inr ()):=e2;rw[e2',ga];have:a=b:=yI (Cy false (by omega) fun i hi=>(h1 i (by omega)).1) (Cy (false,false) (by omega) fun i hi=>(h1 i (by omega)).2) (Cy vb hl h2);rw[decide_eq_true this];rfl
   ·have e2':Ia (jn.m (a.1,a.2.1,a.2.2,b.1,b.2.1,b.2.2)) 0=some (.inl ()):=e2;rw[e2',ga];have:¬a=b:=fun e=>h2 (by rw[e])
    rw[decide_eq_false this];rfl
  ·have e1':Ia (kn.m (a.1,a.2.1,a.2.2,b.1,b.2.1,b.2.2)) 0=some (.inl ()):=e1;rw[e1',ga];have:¬a=b:=fun e=>h1 (by rw[e];exact⟨rfl,rfl⟩)
   rw[decide_eq_false this];rfl
 ·have dl:¬((a.2.2.length:Nat):Int)=(b.2.2.length:Int):=by omega
  have:¬a=b:=fun e=>hl (by rw[e])
  simp only[dl,decide_false,we,cond_true];rw[decide_eq_false this]
end Go.U
end
section
set_option maxRecDepth 20000
namespace Go.U
open Go
theorem Dv{T E:Type}{step:T->Option (T ⊕ E)}{n:Nat}(s:Nat->T)(ok:Nat->Bool)(xb xg:E)(hn:n<18446744073709551616)(μ:T->Nat)(D4:∀i,i<=n->μ (s i)=n-i)
  (hs:∀i,i<n->step (s i)=some (cond (ok i) (.inl (s (i+1))) (.inr xb))) (he:step (s n)=some (.inr xg)):
  ∃b,Ia step (s 0)=some (cond b xg xb)/\(b=true↔∀i,i<n->ok i=true):=by
 rcases Tx (step:=step) s (fun i=>ok i=true) xb xg hn μ D4 (fun i hi h=>by rw[hs i hi,h];rfl) (fun i hi h=>by rw[hs i hi,Bool.eq_false_iff.2 h];rfl) he with⟨h1,h2⟩|⟨h1,i,hi,h2⟩
 ·exact⟨true,h1,fun _=>h2,fun _=>rfl⟩
 ·exact⟨false,h1,fun h=>(by cases h),fun h=>absurd (h i hi) h2⟩
section
variable (P:List Bool)(W:List (Bool×Bool))(E:List za)(P':List Bool)(W':List (Bool×Bool))(E':List za)(bl:Bool)
theorem w5{k i z1 z2:Int}{b:Bool}(h:Zg ((k,(i,(z1,z2))),P',W',E')=some b):Rh (k,i,z1,z2,P',W',E',bl)=some (cond b (.inr ()) (.inl ())):=by
 have e:Rh (k,i,z1,z2,P',W',E',bl)=(Zg ((k,(i,(z1,z2))),P',W',E')).bind fun r=>cond (!r) (some (.inl ())) (some (.inr ())):=rfl
 rw[e,h];cases b<;>rfl
theorem cN(hP:P.length<=4096)(hl:P'.length=P.length):∃b,Ia (Kj.m (nt P.length,(P,W,E,P',W',E',bl))) 0=some (cond b (.inr ()) (.inl ()))/\(b=true↔∀i,i<P.length->(!gx P i false||gx P' i false)=true):=
 Dv (step:=Kj.m (nt P.length,(P,W,E,P',W',E',bl))) (n:=P.length) (fun i=>(i:Int)) (fun i=> !gx P i false||gx P' i false) (.inl ()) (.inr ()) (by omega) (fun t=>P.length-t.toNat) (fun i _=>by simp) (fun i hi=>by
  have h':(i:Int)<(P.length:Int):=by omega
  have w:Ea ((i:Int)+1)=((i+1:Nat):Int):=by rw[Lb (by omega) (by omega)];rfl
  simp only[LD.m,Kj,nt,h',decide_true,cond_true,ag hi,Ma,Ca,w];cases hg:gx P i false
  ·simp only[cond_false,we,Qj,cond_true]
  ·rw[cond_true,w5 P' W' E' bl (show Zg ((0,((i:Int),(0,0))),P',W',E')=some (gx P' i false)from mQ i (0,0) P' W' E' (by omega)),ga,nh,Bool.false_or];cases gx P' i false<;>rfl) (by
  simp only[LD.m,Kj,nt,Pb,decide_false,cond_false])
theorem aN(i:Nat)(z1 z2:Int)(w:Bool×Bool)(hi:i<W'.length):Ia (Uf.m ((i:Int),z1,z2,w,(P,W,E,P',W',E',bl))) 0=some (cond ((!w.1||(gx W' i (false,false)).1)&&(!w.2||(gx W' i (false,false)).2)) (.inr ()) (.inl ())):=by
 have w0:Ea ((0:Int)+1)=1:=by decide
 have w1:Ea ((1:Int)+1)=2:=by decide
 have w2:Ea ((1:Int)+0)=1:=by decide
 have d0:(0:Int)<2:=by decide
 have d1:(1:Int)<2:=by decide
 have d2:¬(1:Int)=0:=by decide
 obtain⟨k1,k2⟩:=lQ i (0,0) P' W' E' hi;generalize(gx W' i (false,false)).1=g1 at *
 generalize(gx W' i (false,false)).2=g2 at *
 have s0:Uf.m ((i:Int),z1,z2,w,(P,W,E,P',W',E',bl)) 0=some (cond (!w.1||g1) (.inl 1) (.inr (.inl ()))):=by
  simp only[LD.m,Uf,d0,decide_true,cond_true,w0,w2];cases w.1
  ·rfl
  ·rw[cond_true,w5 P' W' E' bl k1,ga];cases g1<;>rfl
 have s1:Uf.m ((i:Int),z1,z2,w,(P,W,E,P',W',E',bl)) 1=some (cond (!w.2||g2) (.inl 2) (.inr (.inl ()))):=by
  simp only[LD.m,Uf,d1,d2,decide_true,decide_false,cond_true,cond_false,w1];cases w.2
  ·rfl
  ·rw[cond_true,w5 P' W' E' bl k2,ga];cases g2<;>rfl
 have s2:Uf.m ((i:Int),z1,z2,w,(P,W,E,P',W',E',bl)) 2=some (.inr (.inr ())):=by
  simp only[LD.m,Uf,Pb,decide_false,cond_false]
 obtain⟨b,h1,h2⟩:=Dv (step:=Uf.m ((i:Int),z1,z2,w,(P,W,E,P',W',E',bl))) (n:=2) (fun k=>(k:Int)) (fun k=>if k=0 then !w.1||g1 else !w.2||g2) (.inl ()) (.inr ()) (by decide) (fun t=>2-t.toNat) (fun k hk=>by simp) (fun k hk=>by
  obtain rfl|rfl:k=0\/k=1:=by omega
  ·exact s0
  ·exact s1) s2
 have h1:Ia (Uf.m ((i:Int),z1,z2,w,(P,W,E,P',W',E',bl))) 0=_:=h1;have e:((!w.1||g1)&&(!w.2||g2))=b:=by
  have:b=true↔((!w.1||g1)&&(!w.2||g2))=true:=by
   rw[h2,Na];exact⟨fun h=>⟨h 0 (by decide),h 1 (by decide)⟩,fun h k hk=>by
    obtain rfl|rfl:k=0\/k=1:=by omega
    ·exact h.1
    ·exact h.2⟩
  exact(Bool.eq_iff_iff.2 this).symm
 rw[h1,e]
theorem bN(hW:W.length<=4096)(hl:W'.length=W.length):∃b,Ia (Jj.m (nt W.length,(P,W,E,P',W',E',bl))) 0=some (cond b (.inr ()) (.inl ()))/\(b=true↔∀i,i<W.length->((!(gx W i (false,false)).1||(gx W' i (false,false)).1)&&(!(gx W i (false,false)).2||(gx W' i (false,false)).2))=true):=
 Dv (step:=Jj.m (nt W.length,(P,W,E,P',W',E',bl))) (n:=W.length) (fun i=>(i:Int)) (fun i=>(!(gx W i (false,false)).1||(gx W' i (false,false)).1)&&(!(gx W i (false,false)).2||(gx W' i (false,false)).2)) (.inl ()) (.inr ()) (by omega) (fun t=>W.length-t.toNat) (fun i _=>by simp) (fun i hi=>by
  have h':(i:Int)<(W.length:Int):=by omega
  have w:Ea ((i:Int)+1)=((i+1:Nat):Int):=by rw[Lb (by omega) (by omega)];rfl
  have e:=aN P W E P' W' E' bl i (nt W.length) (i:Int) (gx W i (false,false)) (by omega);simp only[nt]at e;simp only[LD.m,Jj,nt,h',decide_true,cond_true,ag hi,Ma,Ca,w];rw[e,ga];cases((!(gx W i (false,false)).1||(gx W' i (false,false)).1)&&(!(gx W i (false,false)).2||(gx W' i (false,false)).2))<;>rfl) (by
  simp only[LD.m,Jj,nt,Pb,decide_false,cond_false])
theorem rK(hE:E.length<=1000000)(hE':E'.length<=1000000):∃b,Ia (Yh.m (nt E.length,(P,W,E,P',W',E',bl))) 0=some (cond b (.inr ()) (.inl ()))/\(b=true↔∀i,i<E.length->decide (gx E i vb∈E')=true):=
 Dv (step:=Yh.m (nt E.length,(P,W,E,P',W',E',bl))) (n:=E.length) (fun i=>(i:Int)) (fun i=>decide (gx E i vb∈E')) (.inl ()) (.inr ()) (by omega) (fun t=>E.length-t.toNat) (fun i _=>by simp) (fun i hi=>by
  have h':(i:Int)<(E.length:Int):=by omega
  have w:Ea ((i:Int)+1)=((i+1:Nat):Int):=by rw[Lb (by omega) (by omega)];rfl
  simp only[LD.m,Yh,nt,h',decide_true,cond_true,ag hi,Ma,Ca,w];rw[w5 P' W' E' bl (show Zg ((3,(0,((gx E i vb).1,(gx E i vb).2))),P',W',E')=some (decide (gx E i vb∈E'))from XH (gx E i vb) 0 P' W' E' (by omega)),ga];cases decide (gx E i vb∈E')<;>rfl) (by
  simp only[LD.m,Yh,nt,Pb,decide_false,cond_false])
end
theorem VB{α:Type}{l:List α}{i:Nat}{d:α}(h:l.length<=i):gx l i d=d:=by simp[gx,List.getD,h]
theorem lF{a b:Bool}:(!a||b)=true↔(a=true->b=true):=by cases a<;>cases b<;>simp
theorem Tad{N:Nat}(hN:N<=4096){a b:Pa}(ha:fk N a)(hb:fk N b):∃r,oC (a.1,a.2.1,a.2.2,b.1,b.2.1,b.2.2)=some r/\(r=true↔LeC a b/\∀x,x∈a.2.2->x∈b.2.2):=by
 have a1:=ha.p;have a2:=ha.w;have a3:=ha.e;have b1:=hb.p;have b2:=hb.w;have b3:=hb.e;obtain⟨r1,e1,h1⟩:=cN a.1 a.2.1 a.2.2 b.1 b.2.1 b.2.2 false (by omega) (by omega);obtain⟨r2,e2,h2⟩:=bN a.1 a.2.1 a.2.2 b.1 b.2.1 b.2.2 false (by omega) (by omega);obtain⟨r3,e3,h3⟩:=rK a.1 a.2.1 a.2.2 b.1 b.2.1 b.2.2 false a3 b3;have e:oC (a.1,a.2.1,a.2.2,b.1,b.2.1,b.2.2)=some (r1&&(r2&&r3)):=by
  have e':Ys (a.1,a.2.1,a.2.2,b.1,b.2.1,b.2.2,false)=some (cond (r1&&(r2&&r3)) (.inr ()) (.inl ())):=by
   unfold Ys BA;simp only;rw[e1,ga];cases r1
   ·rfl
   simp only[cond_true,Sum.elim_inr];rw[e2,ga];cases r2
   ·rfl
   simp only[cond_true,Sum.elim_inr];rw[e3,ga];cases r3<;>rfl
  unfold oC HQ;simp only[PD.m,nC];rw[e'];cases(r1&&(r2&&r3))<;>rfl
 refine⟨_,e,?_⟩;rw[Na,Na,h1,h2,h3];constructor
 ·rintro⟨k1,k2,k3⟩
  refine⟨⟨fun i h=> ?_,fun i h=> ?_,fun i h=> ?_⟩,fun x hx=> ?_⟩
  ·by_cases hi:i<a.1.length
   ·exact lF.1 (k1 i hi) h
   ·rw[VB (by omega)]at h;cases h
  ·by_cases hi:i<a.2.1.length
   ·exact lF.1 (Na _ _ ▸ k2 i hi).1 h
   ·rw[VB (by omega)]at h;cases h
  ·by_cases hi:i<a.2.1.length
   ·exact lF.1 (Na _ _ ▸ k2 i hi).2 h
   ·rw[VB (by omega)]at h;cases h
  ·obtain⟨j,hj⟩:=List.mem_iff_getElem?.1 hx;have:=of_decide_eq_true (k3 j (Xa hj))
   rwa [Vv hj]at this
 ·rintro⟨k,k3⟩
  exact⟨fun i _=>lF.2 (k.p i),fun i _=>by rw[Na];exact⟨lF.2 (k.w1 i),lF.2 (k.w2 i)⟩,fun i hi=>decide_eq_true (k3 _ (Db (Li (d:=vb) hi)))⟩
end Go.U
end
