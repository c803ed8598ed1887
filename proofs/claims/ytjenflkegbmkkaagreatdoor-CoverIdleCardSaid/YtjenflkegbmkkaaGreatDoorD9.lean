/- What these Lean functions compute: plain arithmetic of congruences, the checks of a graph, the values of its registers. -/
import Derived.Test.YtjenflkegbmkkaaGreatDoorD8
import Derived.Test.YtjenflkegbmkkaaGreatDoorD7
set_option linter.unusedVariables false
set_option linter.unusedSimpArgs false
set_option linter.unusedSectionVars false
open Bool renaming toNat_false→Og,toNat_true→Cy,not_false→Ve,not_true→Xl,true_and→uo,or_eq_true→Ff
open Int renaming toNat_natCast→Ca,lt_irrefl→Mb
open List renaming mem_of_getElem?→jb,mem_iff_getElem?→GB,mem_cons_of_mem→Gb,mem_cons_self→zc,mem_cons→oc,length_take→dc,foldl_cons→vB,length_append→Ud,zipWith→cE,take_length→qo
open Nat renaming add_mul→Ce,le_refl→oa,add_zero→td,add_assoc→ud,zero_add→de
open Option renaming bind_some→da
section
set_option maxRecDepth 20000
namespace Go.U
open Go
theorem G8 {g:Ba} {a b:Pa} (ha:Cov g a) (hb:Cov g b):LeC a (ee a b):=by
 have e1:a.1.length=b.1.length:=ha.p.trans hb.p.symm;have e3:a.2.1.length=b.2.1.length:=ha.w.trans hb.w.symm;refine ⟨fun i h=> ?_,fun i h=> ?_,fun i h=> ?_⟩
 · show gx (Vw _ _) i false=true;rw [vA e1,h];rfl
 · show (gx (Ks _ _) i (false,false)).1=true;rw [Bn e3];simp only [h];rfl
 · show (gx (Ks _ _) i (false,false)).2=true;rw [Bn e3];simp only [h];rfl
theorem b8 {S:Nat} (hS:S<=maxLen) {l:List (List Int)} (h:KC S (.slice (.slice (.int .i64))) l):kS l:=fun s hs=>F8 hS (h.2 s hs)
theorem Kv {l:List (List Int)} (hn:l.length<=9223372036854775807) (h:kS l):BG l:=⟨hn,fun i hi=>h _ (jb (jh (d:=[]) hi))⟩
end Go.U
end
section
set_option maxRecDepth 20000
namespace Go.U
open Go
def Qc (f:Nat->Nat):Nat->Nat
 |0=>0
 |n+1=>Qc f n+f n
theorem Rg {f:Nat->Nat} {k:Nat} (h:∀ i,f i<=k):∀ n,Qc f n<=n * k
 |0=>by simp [Qc]
 |n+1=>by
  have:=Rg h n;have:=h n;rw [Qc,Ce,Nat.one_mul];omega
theorem Ds {f f':Nat->Nat}:∀ n,(∀ i,i<n->f i=f' i)->Qc f n=Qc f' n
 |0,_=>rfl
 |n+1,h=>by rw [Qc,Qc,Ds n (fun i hi=>h i (by omega)),h n (by omega)]
theorem Kz {f f':Nat->Nat}:∀ n,Qc (fun i=>f i+f' i) n=Qc f n+Qc f' n
 |0=>rfl
 |n+1=>by simp only [Qc];rw [Kz n];omega
theorem pq {f:Nat->Nat}:∀ n,Qc f n=0->∀ i,i<n->f i=0
 |0,_,i,hi=>by omega
 |n+1,h,i,hi=>by
  rw [Qc] at h;by_cases e:i=n
  · subst e;omega
  · exact pq n (by omega) i (by omega)
theorem It {f:Nat->Nat}:∀ n,(∀ i,i<n->f i=0)->Qc f n=0
 |0,_=>rfl
 |n+1,h=>by rw [Qc,It n (fun i hi=>h i (by omega)),h n (by omega)]
abbrev ff:Bool×Bool:=(false,false)
def eB (c:Pa):Nat:=Qc (fun i=>(gx c.1 i false).toNat) c.1.length+Qc (fun i=>(gx c.2.1 i (false,false)).1.toNat+(gx c.2.1 i (false,false)).2.toNat) c.2.1.length+Qc (fun _=>1) c.2.2.length
def Lr (c h:Pa):Nat:=Qc (fun i=>(gx c.1 i false&& !(gx h.1 i false)).toNat) c.1.length+Qc (fun i=>((gx c.2.1 i (false,false)).1&& !(gx h.2.1 i (false,false)).1).toNat+((gx c.2.1 i (false,false)).2&& !(gx h.2.1 i (false,false)).2).toNat) c.2.1.length+Qc (fun j=>(!(decide (gx c.2.2 j Zb∈h.2.2))).toNat) c.2.2.length
theorem toNat_le (b:Bool):b.toNat<=1:=by cases b<;>decide
theorem IY {N:Nat} (hN:N<=4096) {c:Pa} (h:oo N c):eB c<=2000000:=by
 have h1:=Rg (f:=fun i=>(gx c.1 i false).toNat) (k:=1) (fun i=>toNat_le _) c.1.length;have h2:=Rg (f:=fun i=>(gx c.2.1 i (false,false)).1.toNat+(gx c.2.1 i (false,false)).2.toNat) (k:=2) (fun i=>by have:=toNat_le (gx c.2.1 i (false,false)).1;have:=toNat_le (gx c.2.1 i (false,false)).2;omega) c.2.1.length;have h3:=Rg (f:=fun _=>1) (k:=1) (fun i=>oa _) c.2.2.length;have:=h.p;have:=h.w;have:=h.e;unfold eB;omega
theorem kr {step:Int×Int->Option ((Int×Int) ⊕ Int)} {n:Nat} {f:Nat->Nat} {a:Nat} (hn:n<=9223372036854775807) (hs:∀ i,i<n->step ((i:Int),((a+Qc f i:Nat):Int))=some (.inl (((i+1:Nat):Int),((a+Qc f (i+1):Nat):Int)))) (he:step ((n:Int),((a+Qc f n:Nat):Int))=some (.inr ((a+Qc f n:Nat):Int))):
  Oa step (0,(a:Int))=some ((a+Qc f n:Nat):Int):=
 Md (step:=step) (n:=n) (fun i=>((i:Int),((a+Qc f i:Nat):Int))) _ (by omega) (fun t=>n-t.1.toNat) (fun i _=>by simp) hs he
theorem UK (c:Pa) (hn:c.1.length<=4096) (a:Nat) (ha:a<=10000000):Oa (qi.m (nt c.1.length,c.1,c.2.1,c.2.2)) (0,(a:Int))=some ((a+Qc (fun i=>(gx c.1 i false).toNat) c.1.length:Nat):Int):=by
 refine kr (step:=qi.m (nt c.1.length,c.1,c.2.1,c.2.2)) (n:=c.1.length) (f:=fun i=>(gx c.1 i false).toNat) (a:=a) (by omega) (fun i hi=> ?_) ?_
 · have h':(i:Int)<(c.1.length:Int):=by omega
   have w:Ga ((i:Int)+1)=((i+1:Nat):Int):=by rw [Sb (by omega) (by omega)];rfl
   have hb:=Rg (f:=fun i=>(gx c.1 i false).toNat) (k:=1) (fun i=>toNat_le _) i;have w2:Ga (((a+Qc (fun i=>(gx c.1 i false).toNat) i:Nat):Int)+1)=((a+Qc (fun i=>(gx c.1 i false).toNat) i+1:Nat):Int):=by rw [Sb (by omega) (by omega)];rfl
   simp only [LD.m,qi,nt,h',decide_true,cond_true,Rh hi,Xa,Ca,w,Qc];cases hg:gx c.1 i false
   · simp only [cond_false,Og,td]
   · simp only [cond_true,Cy,mg,Li,da,w2,<- ud]
 · simp only [LD.m,qi,nt,Mb,decide_false,cond_false]
theorem SK (c:Pa) (i:Nat) (z1 z2:Int) (w:Bool×Bool) (a:Nat) (ha:a<=20000000):Oa (Lf.m ((i:Int),z1,z2,w,c)) (0,(a:Int))=some ((a+(w.1.toNat+w.2.toNat):Nat):Int):=by
 have w0:Ga ((0:Int)+1)=1:=by decide
 have w1:Ga ((1:Int)+1)=2:=by decide
 have wa:∀ b:Nat,b<=30000000->Ga ((b:Int)+1)=((b+1:Nat):Int):=fun b hb=>by rw [Sb (by omega) (by omega)];rfl
 have d0:(0:Int)<2:=by decide
 have d1:(1:Int)<2:=by decide
 have d2:¬ (1:Int)=0:=by decide
 have s0:Lf.m ((i:Int),z1,z2,w,c) (0,(a:Int))=some (.inl (1,((a+w.1.toNat:Nat):Int))):=by
  simp only [LD.m,Lf,d0,decide_true,cond_true,w0];cases h:w.1
  · simp only [cond_false,Og,td]
  · simp only [cond_true,Cy,mg,Li,da,wa a (by omega)]
 have s1:Lf.m ((i:Int),z1,z2,w,c) (1,((a+w.1.toNat:Nat):Int))=some (.inl (2,((a+(w.1.toNat+w.2.toNat):Nat):Int))):=by
  simp only [LD.m,Lf,d1,d2,decide_true,decide_false,cond_true,cond_false,w1];have:=toNat_le w.1;cases h:w.2
  · simp only [cond_false,Og,td]
  · simp only [cond_true,Cy,mg,Li,da,wa (a+w.1.toNat) (by omega),<- ud]
 have s2:Lf.m ((i:Int),z1,z2,w,c) (2,((a+(w.1.toNat+w.2.toNat):Nat):Int))=some (.inr ((a+(w.1.toNat+w.2.toNat):Nat):Int)):=by
  simp only [LD.m,Lf,Mb,decide_false,cond_false]
 exact Md (step:=Lf.m ((i:Int),z1,z2,w,c)) (n:=2) (fun k=>if k=0 then (0,(a:Int)) else if k=1 then (1,((a+w.1.toNat:Nat):Int)) else (2,((a+(w.1.toNat+w.2.toNat):Nat):Int))) _ (by decide) (fun t=>2-t.1.toNat) (fun k hk=>by
  obtain rfl|rfl|rfl:k=0\/k=1\/k=2:=by omega
  · rfl
  · rfl
  · rfl) (fun k hk=>by
  obtain rfl|rfl:k=0\/k=1:=by omega
  · exact s0
  · exact s1) s2
theorem TK (c:Pa) (hn:c.2.1.length<=4096) (a:Nat) (ha:a<=10000000):Oa (sj.m (nt c.2.1.length,c.1,c.2.1,c.2.2)) (0,(a:Int))=some ((a+Qc (fun i=>(gx c.2.1 i (false,false)).1.toNat+(gx c.2.1 i (false,false)).2.toNat) c.2.1.length:Nat):Int):=by
 refine kr (step:=sj.m (nt c.2.1.length,c.1,c.2.1,c.2.2)) (n:=c.2.1.length) (f:=fun i=>(gx c.2.1 i (false,false)).1.toNat+(gx c.2.1 i (false,false)).2.toNat) (a:=a) (by omega) (fun i hi=> ?_) ?_
 · have h':(i:Int)<(c.2.1.length:Int):=by omega
   have w:Ga ((i:Int)+1)=((i+1:Nat):Int):=by rw [Sb (by omega) (by omega)];rfl
   have hb:=Rg (f:=fun i=>(gx c.2.1 i (false,false)).1.toNat+(gx c.2.1 i (false,false)).2.toNat) (k:=2) (fun i=>by have:=toNat_le (gx c.2.1 i (false,false)).1;have:=toNat_le (gx c.2.1 i (false,false)).2;omega) i;have e:=SK c i (nt c.2.1.length) (i:Int) (gx c.2.1 i (false,false)) (a+Qc (fun i=>(gx c.2.1 i (false,false)).1.toNat+(gx c.2.1 i (false,false)).2.toNat) i) (by omega);simp only [nt] at e;simp only [LD.m,sj,nt,h',decide_true,cond_true,Rh hi,Xa,Ca,w,Qc];have e':Oa (Lf.m ((i:Int),(c.2.1.length:Int),(i:Int),gx c.2.1 i (false,false),c.1,c.2.1,c.2.2)) (0,((a+Qc (fun i=>(gx c.2.1 i (false,false)).1.toNat+(gx c.2.1 i (false,false)).2.toNat) i:Nat):Int))=_:=e;rw [e',da,ud]
 · simp only [LD.m,sj,nt,Mb,decide_false,cond_false]
theorem sI (c:Pa) (hn:c.2.2.length<=1000000) (a:Nat) (ha:a<=10000000):Oa (Mh.m (nt c.2.2.length,c.1,c.2.1,c.2.2)) (0,(a:Int))=some ((a+Qc (fun _=>1) c.2.2.length:Nat):Int):=by
 refine kr (step:=Mh.m (nt c.2.2.length,c.1,c.2.1,c.2.2)) (n:=c.2.2.length) (f:=fun _=>1) (a:=a) (by omega) (fun i hi=> ?_) ?_
 · have h':(i:Int)<(c.2.2.length:Int):=by omega
   have w:Ga ((i:Int)+1)=((i+1:Nat):Int):=by rw [Sb (by omega) (by omega)];rfl
   have hb:=Rg (f:=fun _=>1) (k:=1) (fun i=>oa _) i;have w2:Ga (((a+Qc (fun _=>1) i:Nat):Int)+1)=((a+Qc (fun _=>1) i+1:Nat):Int):=by rw [Sb (by omega) (by omega)];rfl
   simp only [LD.m,Mh,nt,h',decide_true,cond_true,Rh hi,Xa,Ca,w,mg,Li,da,w2,Qc,<- ud]
 · simp only [LD.m,Mh,nt,Mb,decide_false,cond_false]
theorem SX {N:Nat} (hN:N<=4096) {c:Pa} (h:oo N c):Rp (c.1,c.2.1,c.2.2)=some (eB c:Int):=by
 have hp:=h.p;have hw:=h.w;have he:=h.e;have hc:=IY hN h;unfold eB at hc;have e1:=UK c (by omega) 0 (by omega);have e2:=TK c (by omega) (0+Qc (fun i=>(gx c.1 i false).toNat) c.1.length) (by omega);have e3:=sI c he (0+Qc (fun i=>(gx c.1 i false).toNat) c.1.length+Qc (fun i=>(gx c.2.1 i (false,false)).1.toNat+(gx c.2.1 i (false,false)).2.toNat) c.2.1.length) (by omega);have e:Vq (c.1,c.2.1,c.2.2,0)=some (eB c:Int):=by
  unfold Vq dz;simp only;have Q3:Oa (qi.m (nt c.1.length,c.1,c.2.1,c.2.2)) (0,0)=_:=e1;rw [Q3,da];rw [e2,da,e3,da];unfold eB;rw [de]
 unfold Rp eO;simp only [PD.m,QA];rw [e];rfl
end Go.U
end
section
set_option maxRecDepth 20000
namespace Go.U
open Go
section
variable (c h:Pa)
abbrev nP (i:Nat):Nat:=(gx c.1 i false&& !(gx h.1 i false)).toNat
abbrev nW (i:Nat):Nat:=((gx c.2.1 i (false,false)).1&& !(gx h.2.1 i (false,false)).1).toNat+((gx c.2.1 i (false,false)).2&& !(gx h.2.1 i (false,false)).2).toNat
abbrev nE (i:Nat):Nat:=(!(decide (gx c.2.2 i Zb∈h.2.2))).toNat
theorem eE {k i z1 z2:Int} {b:Bool} {a:Nat} (ha:a<=30000000) (hf:Kg ((k,(i,(z1,z2))),h.1,h.2.1,h.2.2)=some b):Dh (k,i,z1,z2,h.1,h.2.1,h.2.2,(a:Int))=some ((a+(!b).toNat:Nat):Int):=by
 have e:Dh (k,i,z1,z2,h.1,h.2.1,h.2.2,(a:Int))=(Kg ((k,(i,(z1,z2))),h.1,h.2.1,h.2.2)).bind fun r=>cond (!r) (some (Ga ((a:Int)+1))) (some (a:Int)):=rfl
 have w:Ga ((a:Int)+1)=((a+1:Nat):Int):=by rw [Sb (by omega) (by omega)];rfl
 rw [e,hf,da];cases b
 · simp only [Ve,cond_true,w,Cy]
 · simp only [Xl,cond_false,Og,td]
theorem NK (hn:c.1.length<=4096) (hh:h.1.length=c.1.length) (a:Nat) (ha:a<=10000000):Oa (ni.m (c.1,nt c.1.length,c,h.1,h.2.1,h.2.2)) (0,(a:Int))=some ((a+Qc (nP c h) c.1.length:Nat):Int):=by
 refine kr (step:=ni.m (c.1,nt c.1.length,c,h.1,h.2.1,h.2.2)) (n:=c.1.length) (f:=nP c h) (a:=a) (by omega) (fun i hi=> ?_) ?_
 · have h':(i:Int)<(c.1.length:Int):=by omega
   have w:Ga ((i:Int)+1)=((i+1:Nat):Int):=by rw [Sb (by omega) (by omega)];rfl
   have hb:=Rg (f:=nP c h) (k:=1) (fun i=>toNat_le _) i;simp only [LD.m,ni,nt,h',decide_true,cond_true,Rh hi,Xa,Ca,w,Qc];cases hg:gx c.1 i false
   · simp only [cond_false,nP,hg,Bool.false_and,Og,td]
   · rw [cond_true,eE h (by omega) (show Kg ((0,((i:Int),(0,0))),h.1,h.2.1,h.2.2)=some (gx h.1 i false) from FN i (0,0) h.1 h.2.1 h.2.2 (by omega)),da];simp only [nP,hg,uo,ud]
 · simp only [LD.m,ni,nt,Mb,decide_false,cond_false]
theorem LK (q:Pa) (i:Nat) (z0:List (Bool×Bool)) (z1 z2:Int) (w:Bool×Bool) (hi:i<h.2.1.length) (a:Nat) (ha:a<=20000000):Oa (Kf.m ((i:Int),z0,z1,z2,w,(q,h))) (0,(a:Int))=some ((a+((w.1&& !(gx h.2.1 i (false,false)).1).toNat+(w.2&& !(gx h.2.1 i (false,false)).2).toNat):Nat):Int):=by
 have w0:Ga ((0:Int)+1)=1:=by decide
 have w1:Ga ((1:Int)+1)=2:=by decide
 have w2:Ga ((1:Int)+0)=1:=by decide
 have d0:(0:Int)<2:=by decide
 have d1:(1:Int)<2:=by decide
 have d2:¬ (1:Int)=0:=by decide
 obtain ⟨k1,k2⟩:=EN i (0,0) h.1 h.2.1 h.2.2 hi;generalize hg1:(gx h.2.1 i (false,false)).1=g1 at *
 generalize hg2:(gx h.2.1 i (false,false)).2=g2 at *
 have s0:Kf.m ((i:Int),z0,z1,z2,w,(q,h)) (0,(a:Int))=some (.inl (1,((a+(w.1&& !g1).toNat:Nat):Int))):=by
  simp only [LD.m,Kf,d0,decide_true,cond_true,w0,w2];cases hw:w.1
  · simp only [cond_false,Bool.false_and,Og,td]
  · have e:=eE h (a:=a) (by omega) k1;simp only [cond_true,uo];rw [e];rfl
 have t1:=toNat_le (w.1&& !g1);have s1:Kf.m ((i:Int),z0,z1,z2,w,(q,h)) (1,((a+(w.1&& !g1).toNat:Nat):Int))=some (.inl (2,((a+((w.1&& !g1).toNat+(w.2&& !g2).toNat):Nat):Int))):=by
  simp only [LD.m,Kf,d1,d2,decide_true,decide_false,cond_true,cond_false,w1];cases hw:w.2
  · simp only [cond_false,Bool.false_and,Og,td]
  · have e:=eE h (a:=a+(w.1&& !g1).toNat) (by omega) k2;simp only [cond_true,uo];rw [e,ud];rfl
 have s2:Kf.m ((i:Int),z0,z1,z2,w,(q,h)) (2,((a+((w.1&& !g1).toNat+(w.2&& !g2).toNat):Nat):Int))=some (.inr ((a+((w.1&& !g1).toNat+(w.2&& !g2).toNat):Nat):Int)):=by
  simp only [LD.m,Kf,Mb,decide_false,cond_false]
 exact Md (step:=Kf.m ((i:Int),z0,z1,z2,w,(q,h))) (n:=2) (fun k=>if k=0 then (0,(a:Int)) else if k=1 then (1,((a+(w.1&& !g1).toNat:Nat):Int)) else (2,((a+((w.1&& !g1).toNat+(w.2&& !g2).toNat):Nat):Int))) _ (by decide) (fun t=>2-t.1.toNat) (fun k hk=>by
  obtain rfl|rfl|rfl:k=0\/k=1\/k=2:=by omega
  · rfl
  · rfl
  · rfl) (fun k hk=>by
  obtain rfl|rfl:k=0\/k=1:=by omega
  · exact s0
  · exact s1) s2
theorem W4 (i:Nat):nW c h i<=2:=by
 have:=toNat_le ((gx c.2.1 i (false,false)).1&& !(gx h.2.1 i (false,false)).1);have:=toNat_le ((gx c.2.1 i (false,false)).2&& !(gx h.2.1 i (false,false)).2);simp only [nW];omega
theorem MK (hn:c.2.1.length<=4096) (hh:h.2.1.length=c.2.1.length) (a:Nat) (ha:a<=10000000):Oa (rj.m (c.2.1,nt c.2.1.length,c,h.1,h.2.1,h.2.2)) (0,(a:Int))=some ((a+Qc (nW c h) c.2.1.length:Nat):Int):=by
 refine kr (step:=rj.m (c.2.1,nt c.2.1.length,c,h.1,h.2.1,h.2.2)) (n:=c.2.1.length) (f:=nW c h) (a:=a) (by omega) (fun i hi=> ?_) ?_
 · have h':(i:Int)<(c.2.1.length:Int):=by omega
   have w:Ga ((i:Int)+1)=((i+1:Nat):Int):=by rw [Sb (by omega) (by omega)];rfl
   have hb:=Rg (f:=nW c h) (k:=2) (W4 c h) i;have e:=LK h c i c.2.1 (nt c.2.1.length) (i:Int) (gx c.2.1 i (false,false)) (by omega) (a+Qc (nW c h) i) (by omega);simp only [nt] at e;simp only [LD.m,rj,nt,h',decide_true,cond_true,Rh hi,Xa,Ca,w,Qc];have e':Oa (Kf.m ((i:Int),c.2.1,(c.2.1.length:Int),(i:Int),gx c.2.1 i (false,false),c,h.1,h.2.1,h.2.2)) (0,((a+Qc (nW c h) i:Nat):Int))=_:=e;rw [e',da,ud]
 · simp only [LD.m,rj,nt,Mb,decide_false,cond_false]
theorem nI (hn:c.2.2.length<=1000000) (hh:h.2.2.length<=1000000) (a:Nat) (ha:a<=10000000):Oa (Lh.m (c.2.2,nt c.2.2.length,c,h.1,h.2.1,h.2.2)) (0,(a:Int))=some ((a+Qc (nE c h) c.2.2.length:Nat):Int):=by
 refine kr (step:=Lh.m (c.2.2,nt c.2.2.length,c,h.1,h.2.1,h.2.2)) (n:=c.2.2.length) (f:=nE c h) (a:=a) (by omega) (fun i hi=> ?_) ?_
 · have h':(i:Int)<(c.2.2.length:Int):=by omega
   have w:Ga ((i:Int)+1)=((i+1:Nat):Int):=by rw [Sb (by omega) (by omega)];rfl
   have hb:=Rg (f:=nE c h) (k:=1) (fun i=>toNat_le _) i;simp only [LD.m,Lh,nt,h',decide_true,cond_true,Rh hi,Xa,Ca,w,Qc];rw [eE h (by omega) (show Kg ((3,(0,((gx c.2.2 i Zb).1,(gx c.2.2 i Zb).2))),h.1,h.2.1,h.2.2)=some (decide (gx c.2.2 i Zb∈h.2.2)) from NF (gx c.2.2 i Zb) 0 h.1 h.2.1 h.2.2 (by omega)),da,ud]
 · simp only [LD.m,Lh,nt,Mb,decide_false,cond_false]
end
theorem eT {N:Nat} (hN:N<=4096) {c h:Pa} (hc:oo N c):Lr c h<=2000000:=by
 have h1:=Rg (f:=nP c h) (k:=1) (fun i=>toNat_le _) c.1.length;have h2:=Rg (f:=nW c h) (k:=2) (W4 c h) c.2.1.length;have h3:=Rg (f:=nE c h) (k:=1) (fun i=>toNat_le _) c.2.2.length;have:=hc.p;have:=hc.w;have:=hc.e;show Qc (nP c h) _+Qc (nW c h) _+Qc (nE c h) _<=_;omega
theorem T_ {N:Nat} (hN:N<=4096) {c h:Pa} (hc:oo N c) (hh:oo N h):IA (c,h.1,h.2.1,h.2.2)=some (Lr c h:Int):=by
 have hp:=hc.p;have hw:=hc.w;have he:=hc.e;have jJ:=hh.p;have XC:=hh.w;have he':=hh.e;have hb:Qc (nP c h) c.1.length+Qc (nW c h) c.2.1.length+Qc (nE c h) c.2.2.length<=2000000:=eT hN hc;have e1:=NK c h (by omega) (by omega) 0 (by omega);have e2:=MK c h (by omega) (by omega) (0+Qc (nP c h) c.1.length) (by omega);have e3:=nI c h he he' (0+Qc (nP c h) c.1.length+Qc (nW c h) c.2.1.length) (by omega);have e:Uq (c,h.1,h.2.1,h.2.2,0)=some (Lr c h:Int):=by
  unfold Uq cz;simp only;have Q3:Oa (ni.m (c.1,nt c.1.length,c,h.1,h.2.1,h.2.2)) (0,0)=_:=e1;rw [Q3,da,e2,da,e3,da,de];rfl
 unfold IA KN;simp only [PD.m,HA];rw [e];rfl
structure Bf (a b:Pa):Prop extends LeC a b where
 e:∀ x,x∈a.2.2->x∈b.2.2
theorem Bf.refl (a:Pa):Bf a a:=⟨.refl a,fun _ h=>h⟩
theorem Bf.trans {a b c:Pa} (h:Bf a b) (h':Bf b c):Bf a c:=⟨h.toLeC.trans h'.toLeC,fun x hx=>h'.e x (h.e x hx)⟩
section
variable {g:Ba} {D:List Int}
theorem Bf.left {a b:Pa} (ha:Cov g a) (hb:Cov g b):Bf a (ee a b):=⟨G8 ha hb,fun x hx=>Bq.2 (.inl hx)⟩
theorem Bf.right {a b:Pa} (ha:Cov g a) (hb:Cov g b):Bf b (ee a b):=by rw [aK ha hb];exact .left hb ha
theorem Bf.lub {a b c:Pa} (ha:Cov g a) (hb:Cov g b) (h:Bf a c) (h':Bf b c):Bf (ee a b) c:=by
 have e1:a.1.length=b.1.length:=ha.p.trans hb.p.symm;have e3:a.2.1.length=b.2.1.length:=ha.w.trans hb.w.symm;refine ⟨⟨fun i k=> ?_,fun i k=> ?_,fun i k=> ?_⟩,fun x hx=> ?_⟩
 · have k:gx (Vw a.1 b.1) i false=true:=k;rw [vA e1,Ff] at k;exact k.elim (h.p i) (h'.p i)
 · have k:(gx (Ks a.2.1 b.2.1) i (false,false)).1=true:=k;rw [Bn e3] at k;simp only [Ff] at k;exact k.elim (h.w1 i) (h'.w1 i)
 · have k:(gx (Ks a.2.1 b.2.1) i (false,false)).2=true:=k;rw [Bn e3] at k;simp only [Ff] at k;exact k.elim (h.w2 i) (h'.w2 i)
 · exact (Bq.1 hx).elim (h.e x) (h'.e x)
theorem nB {a b:Bool} (h:a=true->b=true) (h':b=true->a=true):a=b:=by cases a<;>cases b<;>simp_all
theorem Bf.y4 {a b:Pa} (ha:Bi g a) (hb:Bi g b) (h:Bf a b) (h':Bf b a):a=b:=
 QL (UA false (ha.p.trans hb.p.symm) fun i _=>nB (h.p i) (h'.p i)) (UA (false,false) (ha.w.trans hb.w.symm) fun i _=>Prod.ext (nB (h.w1 i) (h'.w1 i)) (nB (h.w2 i) (h'.w2 i))) (eqE ha.s hb.s ha.nd hb.nd fun x=>⟨h.e x,h'.e x⟩)
theorem jr {a b:Bool}:(a&& !b).toNat=0↔(a=true->b=true):=by cases a<;>cases b<;>simp
theorem xq {c h:Pa}:Lr c h=0↔Bf c h:=by
 constructor
 · intro h0;have h0:Qc (nP c h) c.1.length+Qc (nW c h) c.2.1.length+Qc (nE c h) c.2.2.length=0:=h0;have z1:=pq _ (show Qc (nP c h) c.1.length=0 by omega);have z2:=pq _ (show Qc (nW c h) c.2.1.length=0 by omega);have z3:=pq _ (show Qc (nE c h) c.2.2.length=0 by omega);refine ⟨⟨fun i k=> ?_,fun i k=> ?_,fun i k=> ?_⟩,fun x hx=> ?_⟩
   · by_cases hi:i<c.1.length
     · exact jr.1 (z1 i hi) k
     · rw [wA (by omega)] at k;cases k
   · by_cases hi:i<c.2.1.length
     · have:=z2 i hi;simp only [nW] at this;exact jr.1 (by omega) k
     · rw [wA (by omega)] at k;cases k
   · by_cases hi:i<c.2.1.length
     · have:=z2 i hi;simp only [nW] at this;exact jr.1 (show ((gx c.2.1 i (false,false)).2&& !(gx h.2.1 i (false,false)).2).toNat=0 by omega) k
     · rw [wA (by omega)] at k;cases k
   · obtain ⟨j,hj⟩:=GB.1 hx;have KP:=Ua hj;have:=z3 j KP;simp only [nE,lp hj] at this;cases hd:decide (x∈h.2.2)
     · rw [hd] at this;simp at this
     · exact of_decide_eq_true hd
 · intro hs;show Qc (nP c h) c.1.length+Qc (nW c h) c.2.1.length+Qc (nE c h) c.2.2.length=0;rw [It _ fun i _=>jr.2 (hs.p i),It _ fun i _=>(by
     simp only [nW];rw [jr.2 (hs.w1 i),jr.2 (hs.w2 i)]),It _ fun i hi=>(by
     simp only [nE];rw [decide_eq_true (hs.e _ (jb (jh (d:=Zb) hi)))];rfl)]
end
end Go.U
end
section
set_option maxRecDepth 20000
namespace Go.U
open Go
section
variable {g:Ba}
def jl (g:Ba) (l:List Pa):Pa:=l.foldl ee (Df g)
theorem mP {X:Pa}:Bf (Df g) X where
 p i h:=by rw [show gx (Df g).1 i false=false from vK] at h;cases h
 w1 i h:=by rw [show gx (Df g).2.1 i (false,false)=(false,false) from vK] at h;cases h
 w2 i h:=by rw [show gx (Df g).2.1 i (false,false)=(false,false) from vK] at h;cases h
 e x h:=by cases h
def kM (g:Ba) (l:List Pa):Prop:=∀ c∈l,Bi g c
theorem oU:∀ (l:List Pa) (c:Pa),kM g l->Bi g c->Bi g (l.foldl ee c)
 |[],c,_,h=>h
 |x::l,c,hl,h=>oU l _ (fun y hy=>hl y (Gb _ hy)) (h.join (hl x zc))
theorem OH {X:Pa}:∀ (l:List Pa) (c:Pa),kM g l->Bi g c->Bf c X->(∀ y∈l,Bf y X)->Bf (l.foldl ee c) X
 |[],c,_,_,h,_=>h
 |x::l,c,hl,hc,h,h'=>
  have hx:=hl x zc
  OH l _ (fun y hy=>hl y (Gb _ hy)) (hc.join hx) (.lub hc.toCov hx.toCov h (h' x zc)) fun y hy=>h' y (Gb _ hy)
theorem VM:∀ (l:List Pa) (c:Pa),kM g l->Bi g c->Bf c (l.foldl ee c)/\∀ y∈l,Bf y (l.foldl ee c)
 |[],c,_,_=>⟨.refl _,fun y hy=>by cases hy⟩
 |x::l,c,hl,hc=>by
  have hx:=hl x zc;obtain ⟨h1,h2⟩:=VM l (ee c x) (fun y hy=>hl y (Gb _ hy)) (hc.join hx);refine ⟨.trans (.left hc.toCov hx.toCov) h1,fun y hy=> ?_⟩;rcases oc.1 hy with rfl|hy
  · exact .trans (.right hc.toCov hx.toCov) h1
  · exact h2 y hy
theorem jag {l:List Pa} (h:kM g l):Bi g (jl g l):=oU l _ h (Hy g)
theorem qT {l:List Pa} {X:Pa} (h:kM g l) (h':∀ y∈l,Bf y X):Bf (jl g l) X:=OH l _ h (Hy g) mP h'
theorem l5 {l:List Pa} (h:kM g l) {y:Pa} (hy:y∈l):Bf y (jl g l):=(VM l _ h (Hy g)).2 y hy
theorem B0 {l:List Pa} {c:Pa}:jl g (l++[c])=ee (jl g l) c:=by unfold jl;rw [List.foldl_append];rfl
theorem PJ {l:List (List Int)} {fu:Int}:QJ g l fu=jl g (l.map fun s=>Vs g s fu):=by unfold QJ jl;rw [List.foldl_map]
theorem SL {D:List Int} (hF:Ng g D) {fu:Int} (Ci:fu<=1000000) {s:List Int} (hs:s.length<=9223372036854775807):Bi g (Vs g s fu):=⟨Pu hF hs Ci,by
 unfold Vs;simp only;split
 · exact List.pairwise_singleton _ _
 · exact .nil⟩
end
theorem gD (E:List Ra) (Q:List Ra) (hQ:Q.Nodup):∀ n,n<=Q.length->((Q.take n).foldl Mk E).length=E.length+Qc (fun j=>(!(decide (gx Q j Zb∈E))).toNat) n
 |0,_=>by simp [Qc]
 |n+1,h=>by
  have ih:=gD E Q hQ n (by omega);have hn:gx Q n Zb∉Q.take n:=fun hm=>by
    obtain ⟨j,hj⟩:=GB.1 hm;have hl:=Ua hj;rw [dc] at hl;rw [List.getElem?_take_of_lt (by omega),<- jh (d:=Zb) (show n<Q.length by omega)] at hj;have:=(List.getElem?_inj (by omega) hQ).1 hj;omega
  rw [Qg Zb (by omega),List.foldl_append,vB,List.foldl_nil,Qc,<- ud,<- ih];by_cases hE:gx Q n Zb∈E
  · rw [Mk,if_pos (om.2 (.inl hE)),decide_eq_true hE];rfl
  · rw [Mk,if_neg (fun hm=>(om.1 hm).elim hE hn),decide_eq_false hE,Ud];rfl
theorem orS {a b:Bool}:(a||b).toNat=a.toNat+(b&& !a).toNat:=by cases a<;>cases b<;>rfl
theorem WI {g:Ba} {h c:Pa} (hh:Cov g h) (hc:Cov g c):eB (ee h c)=eB h+Lr c h:=by
 have e1:h.1.length=c.1.length:=hh.p.trans hc.p.symm;have e3:h.2.1.length=c.2.1.length:=hh.w.trans hc.w.symm;have l1:(ee h c).1.length=c.1.length:=by show (cE _ _ _).length=_;rw [List.length_zipWith];omega
 have l2:(ee h c).2.1.length=c.2.1.length:=by show (cE _ _ _).length=_;rw [List.length_zipWith];omega
 have l3:(ee h c).2.2.length=h.2.2.length+Qc (nE c h) c.2.2.length:=by
  show (Xg _).length=_;rw [show ∀ l,(Xg l).length=l.length from fun l=>(V.Re V.ey l).length_eq];have:=gD h.2.2 c.2.2 hc.nd c.2.2.length (oa _);rw [qo] at this;exact this
 have one:∀ n,Qc (fun _=>1) n=n:=fun n=>by
  induction n with
  |zero=>rfl
  |succ n ih=>rw [Qc,ih]
 have s1:Qc (fun i=>(gx (ee h c).1 i false).toNat) c.1.length=Qc (fun i=>(gx h.1 i false).toNat) c.1.length+Qc (nP c h) c.1.length:=by
  rw [<- Kz];refine Ds _ fun i _=> ?_
  show (gx (Vw _ _) i false).toNat=_;rw [vA e1,orS]
 have s2:Qc (fun i=>(gx (ee h c).2.1 i (false,false)).1.toNat+(gx (ee h c).2.1 i (false,false)).2.toNat) c.2.1.length=Qc (fun i=>(gx h.2.1 i (false,false)).1.toNat+(gx h.2.1 i (false,false)).2.toNat) c.2.1.length+Qc (nW c h) c.2.1.length:=by
  rw [<- Kz];refine Ds _ fun i _=> ?_
  show (gx (Ks _ _) i (false,false)).1.toNat+(gx (Ks _ _) i (false,false)).2.toNat=_;rw [Bn e3];simp only [orS,nW];omega
 show _=eB h+(Qc (nP c h) _+Qc (nW c h) _+Qc (nE c h) _);unfold eB;rw [l1,l2,l3,s1,s2,e1,e3,one,one];omega
theorem Oaa {g:Ba} {a b:Pa} (ha:Bi g a) (hb:Bi g b) (h:Bf a b) (h':¬ Bf b a):eB a<eB b:=by
 have e:ee a b=b:=Bf.y4 (ha.join hb) hb (.lub ha.toCov hb.toCov h (.refl _)) (.right ha.toCov hb.toCov);have:=WI ha.toCov hb.toCov;rw [e] at this;have:Lr b a≠0:=fun h0=>h' (xq.1 h0)
 omega
section
variable {α:Type} (C:Int->α)
def Su (l:List Int):List (Int×α):=l.map fun i=>(i,C i)
theorem ku (i:Int):∀ l:List Int,uA (k:= .int .i64) i (Su C l)=decide (i∈l)
 |[]=>rfl
 |j::l=>by
  show (decide (i=j)||uA (k:= .int .i64) i (Su C l))=_;rw [ku i l,<- Bool.decide_or];simp
theorem nu (i:Int) (d:α):∀ l:List Int,i∈l->Ps (k:= .int .i64) i d (Su C l)=C i
 |j::l,h=>by
  show cond (decide (i=j)) (C j) (Ps (k:= .int .i64) i d (Su C l))=_;by_cases e:i=j
  · rw [decide_eq_true e,e];rfl
  · rw [decide_eq_false e];exact nu i d l ((oc.1 h).resolve_left e)
theorem Lz (i:Int):∀ l:List Int,i∉l->Lv (k:= .int .i64) i (C i) (Su C l)=Su C (l++[i])
 |[],_=>rfl
 |j::l,h=>by
  show cond (decide (i=j)) _ ((j,C j)::Lv (k:= .int .i64) i (C i) (Su C l))=_;have e:¬ i=j:=fun e=>h (by rw [e];exact zc)
  rw [decide_eq_false e,Lz i l fun hm=>h (Gb _ hm)];rfl
theorem OI (i:Int):∀ l:List Int,xy (k:= .int .i64) i (Su C l)=Su C (l.erase i)
 |[]=>rfl
 |j::l=>by
  show cond (decide (i=j)) (Su C l) ((j,C j)::xy (k:= .int .i64) i (Su C l))=_;by_cases e:i=j
  · rw [decide_eq_true e,e,List.erase_cons_head];rfl
  · rw [decide_eq_false e,OI i l,List.erase_cons_tail (by simpa using fun h=>e h.symm)];rfl
end
def ZL (v:Nat->Nat):Nat->Int×Nat
 |0=>(-1,0)
 |n+1=>if (ZL v n).2<v n then ((n:Int),v n) else ZL v n
theorem wG (v:Nat->Nat):∀ n,(ZL v n=(-1,0)/\∀ i,i<n->v i=0)\/∃ j,j<n/\ZL v n=((j:Int),v j)/\0<v j
 |0=> .inl ⟨rfl,fun i h=>by omega⟩
 |n+1=>by
  unfold ZL;by_cases h:(ZL v n).2<v n
  · rw [if_pos h];exact .inr ⟨n,by omega,rfl,by omega⟩
  · rw [if_neg h];rcases wG v n with ⟨h1,h2⟩|⟨j,h1,h2,h3⟩
    · refine .inl ⟨h1,fun i hi=> ?_⟩;by_cases e:i=n
      · subst e;rw [h1] at h;omega
      · exact h2 i (by omega)
    · exact .inr ⟨j,by omega,h2,h3⟩
end Go.U
end
