/- What these Lean functions compute: plain arithmetic of congruences, the checks of a graph, the values of its registers. -/
import Derived.Test.YtjenflkegbmkkaaGreatDoorD8
import Derived.Test.YtjenflkegbmkkaaGreatDoorD7
set_option linter.unusedVariables false
set_option linter.unusedSimpArgs false
set_option linter.unusedSectionVars false
open Bool renaming not_false→we,not_true→nh,toNat_false→fA,true_and→Vp,or_eq_true→Pf
open Int renaming toNat_natCast→Ca,lt_irrefl→Pb
open List renaming mem_of_getElem?→Db,mem_cons_of_mem→Ib,mem_cons_self→Fc,mem_cons→Vb,foldl_append→eA,length_take→Nb,foldl_cons→Og,length_append→qd,zipWith→Ny,take_length→Hf
open Nat renaming add_mul→Ke,le_refl→va,add_zero→ve,add_assoc→Ue,zero_add→Qe
open Option renaming bind_some→ga
section
set_option maxRecDepth 20000
namespace Go.U
open Go
theorem Maa{g:Ga}{a b:Pa}(ha:Cov g a)(hb:Cov g b):LeC a (vf a b):=by
 have e1:a.1.length=b.1.length:=ha.p.trans hb.p.symm;have e3:a.2.1.length=b.2.1.length:=ha.w.trans hb.w.symm;refine⟨fun i h=> ?_,fun i h=> ?_,fun i h=> ?_⟩
 ·show gx (Xp _ _) i false=true;rw[SB e1,h];rfl
 ·show(gx (sn _ _) i (false,false)).1=true;rw[To e3];simp only[h];rfl
 ·show(gx (sn _ _) i (false,false)).2=true;rw[To e3];simp only[h];rfl
theorem taa{S:Nat}(hS:S<=maxLen){l:List (List Int)}(h:XE S (.slice (.slice (.int .i64))) l):ShL l:=fun s hs=>Laa hS (h.2 s hs)
end Go.U
end
section
set_option maxRecDepth 20000
namespace Go.U
open Go
def Yc(f:Nat->Nat):Nat->Nat
 |0=>0
 |n+1=>Yc f n+f n
theorem Fh{f:Nat->Nat}{k:Nat}(h:∀i,f i<=k):∀n,Yc f n<=n * k
 |0=>by simp[Yc]
 |n+1=>by
  have:=Fh h n;have:=h n;rw[Yc,Ke,Nat.one_mul];omega
theorem su{f f':Nat->Nat}:∀n,(∀i,i<n->f i=f' i)->Yc f n=Yc f' n
 |0,_=>rfl
 |n+1,h=>by rw[Yc,Yc,su n (fun i hi=>h i (by omega)),h n (by omega)]
theorem eB{f f':Nat->Nat}:∀n,Yc (fun i=>f i+f' i) n=Yc f n+Yc f' n
 |0=>rfl
 |n+1=>by simp only[Yc];rw[eB n];omega
theorem Rr{f:Nat->Nat}:∀n,Yc f n=0->∀i,i<n->f i=0
 |0,_,i,hi=>by omega
 |n+1,h,i,hi=>by
  rw[Yc]at h;by_cases e:i=n
  ·subst e;omega
  ·exact Rr n (by omega) i (by omega)
theorem Zu{f:Nat->Nat}:∀n,(∀i,i<n->f i=0)->Yc f n=0
 |0,_=>rfl
 |n+1,h=>by rw[Yc,Zu n (fun i hi=>h i (by omega)),h n (by omega)]
abbrev ff:Bool×Bool:=(false,false)
def AI(c:Pa):Nat:=Yc (fun i=>(gx c.1 i false).toNat) c.1.length+Yc (fun i=>(gx c.2.1 i (false,false)).1.toNat+(gx c.2.1 i (false,false)).2.toNat) c.2.1.length+Yc (fun _=>1) c.2.2.length
def Ep(c h:Pa):Nat:=Yc (fun i=>(gx c.1 i false&& !(gx h.1 i false)).toNat) c.1.length+Yc (fun i=>((gx c.2.1 i (false,false)).1&& !(gx h.2.1 i (false,false)).1).toNat+((gx c.2.1 i (false,false)).2&& !(gx h.2.1 i (false,false)).2).toNat) c.2.1.length+Yc (fun j=>(!(decide (gx c.2.2 j vb∈h.2.2))).toNat) c.2.2.length
theorem toNat_le(b:Bool):b.toNat<=1:=by cases b<;>decide
theorem sae{N:Nat}(hN:N<=4096){c:Pa}(h:fk N c):AI c<=2000000:=by
 have h1:=Fh (f:=fun i=>(gx c.1 i false).toNat) (k:=1) (fun i=>toNat_le _) c.1.length;have h2:=Fh (f:=fun i=>(gx c.2.1 i (false,false)).1.toNat+(gx c.2.1 i (false,false)).2.toNat) (k:=2) (fun i=>by have:=toNat_le (gx c.2.1 i (false,false)).1;have:=toNat_le (gx c.2.1 i (false,false)).2;omega) c.2.1.length;have h3:=Fh (f:=fun _=>1) (k:=1) (fun i=>va _) c.2.2.length;have:=h.p;have:=h.w;have:=h.e;unfold AI;omega
theorem NI{step:Int×Int->Option ((Int×Int) ⊕ Int)}{n:Nat}{f:Nat->Nat}{a:Nat}(hn:n<=9223372036854775807)(hs:∀i,i<n->step ((i:Int),((a+Yc f i:Nat):Int))=some (.inl (((i+1:Nat):Int),((a+Yc f (i+1):Nat):Int))))(he:step ((n:Int),((a+Yc f n:Nat):Int))=some (.inr ((a+Yc f n:Nat):Int))):
  Ia step (0,(a:Int))=some ((a+Yc f n:Nat):Int):=
 Bc (step:=step) (n:=n) (fun i=>((i:Int),((a+Yc f i:Nat):Int))) _ (by omega) (fun t=>n-t.1.toNat) (fun i _=>by simp) hs he
end Go.U
end
section
set_option maxRecDepth 20000
namespace Go.U
open Go
section
variable (c h:Pa)
abbrev nP(i:Nat):Nat:=(gx c.1 i false&& !(gx h.1 i false)).toNat
abbrev nW(i:Nat):Nat:=((gx c.2.1 i (false,false)).1&& !(gx h.2.1 i (false,false)).1).toNat+((gx c.2.1 i (false,false)).2&& !(gx h.2.1 i (false,false)).2).toNat
abbrev nE(i:Nat):Nat:=(!(decide (gx c.2.2 i vb∈h.2.2))).toNat
theorem sG{k i z1 z2:Int}{b:Bool}{a:Nat}(ha:a<=30000000)(hf:Zg ((k,(i,(z1,z2))),h.1,h.2.1,h.2.2)=some b):Qh (k,i,z1,z2,h.1,h.2.1,h.2.2,(a:Int))=some ((a+(!b).toNat:Nat):Int):=by
 have e:Qh (k,i,z1,z2,h.1,h.2.1,h.2.2,(a:Int))=(Zg ((k,(i,(z1,z2))),h.1,h.2.1,h.2.2)).bind fun r=>cond (!r) (some (Ea ((a:Int)+1))) (some (a:Int)):=rfl
 have w:Ea ((a:Int)+1)=((a+1:Nat):Int):=by rw[Lb (by omega) (by omega)];rfl
 rw[e,hf,ga];cases b
 ·simp only[we,cond_true,w,Bool.toNat_true]
 ·simp only[nh,cond_false,fA,ve]
theorem gN(hn:c.1.length<=4096)(hh:h.1.length=c.1.length)(a:Nat)(ha:a<=10000000):Ia (Qi.m (c.1,nt c.1.length,c,h.1,h.2.1,h.2.2)) (0,(a:Int))=some ((a+Yc (nP c h) c.1.length:Nat):Int):=by
 refine NI (step:=Qi.m (c.1,nt c.1.length,c,h.1,h.2.1,h.2.2)) (n:=c.1.length) (f:=nP c h) (a:=a) (by omega) (fun i hi=> ?_) ?_
 ·have h':(i:Int)<(c.1.length:Int):=by omega
  have w:Ea ((i:Int)+1)=((i+1:Nat):Int):=by rw[Lb (by omega) (by omega)];rfl
  have hb:=Fh (f:=nP c h) (k:=1) (fun i=>toNat_le _) i;simp only[LD.m,Qi,nt,h',decide_true,cond_true,ag hi,Ma,Ca,w,Yc];cases hg:gx c.1 i false
  ·simp only[cond_false,nP,hg,Bool.false_and,fA,ve]
  ·rw[cond_true,sG h (by omega) (show Zg ((0,((i:Int),(0,0))),h.1,h.2.1,h.2.2)=some (gx h.1 i false)from mQ i (0,0) h.1 h.2.1 h.2.2 (by omega)),ga];simp only[nP,hg,Vp,Ue]
 ·simp only[LD.m,Qi,nt,Pb,decide_false,cond_false]
theorem dN(q:Pa)(i:Nat)(z0:List (Bool×Bool))(z1 z2:Int)(w:Bool×Bool)(hi:i<h.2.1.length)(a:Nat)(ha:a<=20000000):Ia (Vf.m ((i:Int),z0,z1,z2,w,(q,h))) (0,(a:Int))=some ((a+((w.1&& !(gx h.2.1 i (false,false)).1).toNat+(w.2&& !(gx h.2.1 i (false,false)).2).toNat):Nat):Int):=by
 have w0:Ea ((0:Int)+1)=1:=by decide
 have w1:Ea ((1:Int)+1)=2:=by decide
 have w2:Ea ((1:Int)+0)=1:=by decide
 have d0:(0:Int)<2:=by decide
 have d1:(1:Int)<2:=by decide
 have d2:¬(1:Int)=0:=by decide
 obtain⟨k1,k2⟩:=lQ i (0,0) h.1 h.2.1 h.2.2 hi;generalize hg1:(gx h.2.1 i (false,false)).1=g1 at *
 generalize hg2:(gx h.2.1 i (false,false)).2=g2 at *
 have s0:Vf.m ((i:Int),z0,z1,z2,w,(q,h)) (0,(a:Int))=some (.inl (1,((a+(w.1&& !g1).toNat:Nat):Int))):=by
  simp only[LD.m,Vf,d0,decide_true,cond_true,w0,w2];cases hw:w.1
  ·simp only[cond_false,Bool.false_and,fA,ve]
  ·have e:=sG h (a:=a) (by omega) k1;simp only[cond_true,Vp];rw[e];rfl
 have t1:=toNat_le (w.1&& !g1);have s1:Vf.m ((i:Int),z0,z1,z2,w,(q,h)) (1,((a+(w.1&& !g1).toNat:Nat):Int))=some (.inl (2,((a+((w.1&& !g1).toNat+(w.2&& !g2).toNat):Nat):Int))):=by
  simp only[LD.m,Vf,d1,d2,decide_true,decide_false,cond_true,cond_false,w1];cases hw:w.2
  ·simp only[cond_false,Bool.false_and,fA,ve]
  ·have e:=sG h (a:=a+(w.1&& !g1).toNat) (by omega) k2;simp only[cond_true,Vp];rw[e,Ue];rfl
 have s2:Vf.m ((i:Int),z0,z1,z2,w,(q,h)) (2,((a+((w.1&& !g1).toNat+(w.2&& !g2).toNat):Nat):Int))=some (.inr ((a+((w.1&& !g1).toNat+(w.2&& !g2).toNat):Nat):Int)):=by
  simp only[LD.m,Vf,Pb,decide_false,cond_false]
 exact Bc (step:=Vf.m ((i:Int),z0,z1,z2,w,(q,h))) (n:=2) (fun k=>if k=0 then(0,(a:Int))else if k=1 then(1,((a+(w.1&& !g1).toNat:Nat):Int))else(2,((a+((w.1&& !g1).toNat+(w.2&& !g2).toNat):Nat):Int))) _ (by decide) (fun t=>2-t.1.toNat) (fun k hk=>by
  obtain rfl|rfl|rfl:k=0\/k=1\/k=2:=by omega
  ·rfl
  ·rfl
  ·rfl) (fun k hk=>by
  obtain rfl|rfl:k=0\/k=1:=by omega
  ·exact s0
  ·exact s1) s2
theorem c9(i:Nat):nW c h i<=2:=by
 have:=toNat_le ((gx c.2.1 i (false,false)).1&& !(gx h.2.1 i (false,false)).1);have:=toNat_le ((gx c.2.1 i (false,false)).2&& !(gx h.2.1 i (false,false)).2);simp only[nW];omega
theorem eN(hn:c.2.1.length<=4096)(hh:h.2.1.length=c.2.1.length)(a:Nat)(ha:a<=10000000):Ia (Lj.m (c.2.1,nt c.2.1.length,c,h.1,h.2.1,h.2.2)) (0,(a:Int))=some ((a+Yc (nW c h) c.2.1.length:Nat):Int):=by
 refine NI (step:=Lj.m (c.2.1,nt c.2.1.length,c,h.1,h.2.1,h.2.2)) (n:=c.2.1.length) (f:=nW c h) (a:=a) (by omega) (fun i hi=> ?_) ?_
 ·have h':(i:Int)<(c.2.1.length:Int):=by omega
  have w:Ea ((i:Int)+1)=((i+1:Nat):Int):=by rw[Lb (by omega) (by omega)];rfl
  have hb:=Fh (f:=nW c h) (k:=2) (c9 c h) i;have e:=dN h c i c.2.1 (nt c.2.1.length) (i:Int) (gx c.2.1 i (false,false)) (by omega) (a+Yc (nW c h) i) (by omega);simp only[nt]at e;simp only[LD.m,Lj,nt,h',decide_true,cond_true,ag hi,Ma,Ca,w,Yc];have e':Ia (Vf.m ((i:Int),c.2.1,(c.2.1.length:Int),(i:Int),gx c.2.1 i (false,false),c,h.1,h.2.1,h.2.2)) (0,((a+Yc (nW c h) i:Nat):Int))=_:=e;rw[e',ga,Ue]
 ·simp only[LD.m,Lj,nt,Pb,decide_false,cond_false]
theorem yK(hn:c.2.2.length<=1000000)(hh:h.2.2.length<=1000000)(a:Nat)(ha:a<=10000000):Ia (Zh.m (c.2.2,nt c.2.2.length,c,h.1,h.2.1,h.2.2)) (0,(a:Int))=some ((a+Yc (nE c h) c.2.2.length:Nat):Int):=by
 refine NI (step:=Zh.m (c.2.2,nt c.2.2.length,c,h.1,h.2.1,h.2.2)) (n:=c.2.2.length) (f:=nE c h) (a:=a) (by omega) (fun i hi=> ?_) ?_
 ·have h':(i:Int)<(c.2.2.length:Int):=by omega
  have w:Ea ((i:Int)+1)=((i+1:Nat):Int):=by rw[Lb (by omega) (by omega)];rfl
  have hb:=Fh (f:=nE c h) (k:=1) (fun i=>toNat_le _) i;simp only[LD.m,Zh,nt,h',decide_true,cond_true,ag hi,Ma,Ca,w,Yc];rw[sG h (by omega) (show Zg ((3,(0,((gx c.2.2 i vb).1,(gx c.2.2 i vb).2))),h.1,h.2.1,h.2.2)=some (decide (gx c.2.2 i vb∈h.2.2))from XH (gx c.2.2 i vb) 0 h.1 h.2.1 h.2.2 (by omega)),ga,Ue]
 ·simp only[LD.m,Zh,nt,Pb,decide_false,cond_false]
end
theorem kW{N:Nat}(hN:N<=4096){c h:Pa}(hc:fk N c):Ep c h<=2000000:=by
 have h1:=Fh (f:=nP c h) (k:=1) (fun i=>toNat_le _) c.1.length;have h2:=Fh (f:=nW c h) (k:=2) (c9 c h) c.2.1.length;have h3:=Fh (f:=nE c h) (k:=1) (fun i=>toNat_le _) c.2.2.length;have:=hc.p;have:=hc.w;have:=hc.e;show Yc (nP c h) _+Yc (nW c h) _+Yc (nE c h) _<=_;omega
theorem fad{N:Nat}(hN:N<=4096){c h:Pa}(hc:fk N c)(hh:fk N h):iC (c,h.1,h.2.1,h.2.2)=some (Ep c h:Int):=by
 have hp:=hc.p;have hw:=hc.w;have he:=hc.e;have DL:=hh.p;have nF:=hh.w;have he':=hh.e;have hb:Yc (nP c h) c.1.length+Yc (nW c h) c.2.1.length+Yc (nE c h) c.2.2.length<=2000000:=kW hN hc;have e1:=gN c h (by omega) (by omega) 0 (by omega);have e2:=eN c h (by omega) (by omega) (0+Yc (nP c h) c.1.length) (by omega);have e3:=yK c h he he' (0+Yc (nP c h) c.1.length+Yc (nW c h) c.2.1.length) (by omega);have e:jt (c,h.1,h.2.1,h.2.2,0)=some (Ep c h:Int):=by
  unfold jt DA;simp only;have e1':Ia (Qi.m (c.1,nt c.1.length,c,h.1,h.2.1,h.2.2)) (0,0)=_:=e1;rw[e1',ga,e2,ga,e3,ga,Qe];rfl
 unfold iC qQ;simp only[PD.m,gC];rw[e];rfl
structure Xf(a b:Pa):Prop extends LeC a b where
 e:∀x,x∈a.2.2->x∈b.2.2
theorem Xf.refl(a:Pa):Xf a a:=⟨.refl a,fun _ h=>h⟩
theorem Xf.trans{a b c:Pa}(h:Xf a b)(h':Xf b c):Xf a c:=⟨h.toLeC.trans h'.toLeC,fun x hx=>h'.e x (h.e x hx)⟩
section
variable {g:Ga}{D:List Int}
theorem Xf.left{a b:Pa}(ha:Cov g a)(hb:Cov g b):Xf a (vf a b):=⟨Maa ha hb,fun x hx=>Gn.2 (.inl hx)⟩
theorem Xf.right{a b:Pa}(ha:Cov g a)(hb:Cov g b):Xf b (vf a b):=by rw[BM ha hb];exact .left hb ha
theorem Xf.lub{a b c:Pa}(ha:Cov g a)(hb:Cov g b)(h:Xf a c)(h':Xf b c):Xf (vf a b) c:=by
 have e1:a.1.length=b.1.length:=ha.p.trans hb.p.symm;have e3:a.2.1.length=b.2.1.length:=ha.w.trans hb.w.symm;refine⟨⟨fun i k=> ?_,fun i k=> ?_,fun i k=> ?_⟩,fun x hx=> ?_⟩
 ·have k:gx (Xp a.1 b.1) i false=true:=k;rw[SB e1,Pf]at k;exact k.elim (h.p i) (h'.p i)
 ·have k:(gx (sn a.2.1 b.2.1) i (false,false)).1=true:=k;rw[To e3]at k;simp only[Pf]at k;exact k.elim (h.w1 i) (h'.w1 i)
 ·have k:(gx (sn a.2.1 b.2.1) i (false,false)).2=true:=k;rw[To e3]at k;simp only[Pf]at k;exact k.elim (h.w2 i) (h'.w2 i)
 ·exact(Gn.1 hx).elim (h.e x) (h'.e x)
theorem UC{a b:Bool}(h:a=true->b=true)(h':b=true->a=true):a=b:=by cases a<;>cases b<;>simp_all
theorem Xf.zai{a b:Pa}(ha:Jk g a)(hb:Jk g b)(h:Xf a b)(h':Xf b a):a=b:=
 yI (Cy false (ha.p.trans hb.p.symm) fun i _=>UC (h.p i) (h'.p i)) (Cy (false,false) (ha.w.trans hb.w.symm) fun i _=>Prod.ext (UC (h.w1 i) (h'.w1 i)) (UC (h.w2 i) (h'.w2 i))) (eqE ha.s hb.s ha.nd hb.nd fun x=>⟨h.e x,h'.e x⟩)
theorem Ft{a b:Bool}:(a&& !b).toNat=0↔(a=true->b=true):=by cases a<;>cases b<;>simp
theorem ZE{c h:Pa}:Ep c h=0↔Xf c h:=by
 constructor
 ·intro h0;have h0:Yc (nP c h) c.1.length+Yc (nW c h) c.2.1.length+Yc (nE c h) c.2.2.length=0:=h0;have z1:=Rr _ (show Yc (nP c h) c.1.length=0 by omega);have z2:=Rr _ (show Yc (nW c h) c.2.1.length=0 by omega);have z3:=Rr _ (show Yc (nE c h) c.2.2.length=0 by omega);refine⟨⟨fun i k=> ?_,fun i k=> ?_,fun i k=> ?_⟩,fun x hx=> ?_⟩
  ·by_cases hi:i<c.1.length
   ·exact Ft.1 (z1 i hi) k
   ·rw[VB (by omega)]at k;cases k
  ·by_cases hi:i<c.2.1.length
   ·have:=z2 i hi;simp only[nW]at this;exact Ft.1 (by omega) k
   ·rw[VB (by omega)]at k;cases k
  ·by_cases hi:i<c.2.1.length
   ·have:=z2 i hi;simp only[nW]at this;exact Ft.1 (show((gx c.2.1 i (false,false)).2&& !(gx h.2.1 i (false,false)).2).toNat=0 by omega) k
   ·rw[VB (by omega)]at k;cases k
  ·obtain⟨j,hj⟩:=List.mem_iff_getElem?.1 hx;have zS:=Xa hj;have:=z3 j zS;simp only[nE,Vv hj]at this;cases hd:decide (x∈h.2.2)
   ·rw[hd]at this;simp at this
   ·exact of_decide_eq_true hd
 ·intro hs;show Yc (nP c h) c.1.length+Yc (nW c h) c.2.1.length+Yc (nE c h) c.2.2.length=0;rw[Zu _ fun i _=>Ft.2 (hs.p i),Zu _ fun i _=>(by
   simp only[nW];rw[Ft.2 (hs.w1 i),Ft.2 (hs.w2 i)]),Zu _ fun i hi=>(by
   simp only[nE];rw[decide_eq_true (hs.e _ (Db (Li (d:=vb) hi)))];rfl)]
end
end Go.U
end
section
set_option maxRecDepth 20000
namespace Go.U
open Go
section
variable {g:Ga}
def jl(g:Ga)(l:List Pa):Pa:=l.foldl vf (oe g)
theorem XR{X:Pa}:Xf (oe g) X where
 p i h:=by rw[show gx (oe g).1 i false=false from eH]at h;cases h
 w1 i h:=by rw[show gx (oe g).2.1 i (false,false)=(false,false)from eH]at h;cases h
 w2 i h:=by rw[show gx (oe g).2.1 i (false,false)=(false,false)from eH]at h;cases h
 e x h:=by cases h
def BO(g:Ga)(l:List Pa):Prop:=∀c∈l,Jk g c
theorem pX:∀(l:List Pa)(c:Pa),BO g l->Jk g c->Jk g (l.foldl vf c)
 |[],c,_,h=>h
 |x::l,c,hl,h=>pX l _ (fun y hy=>hl y (Ib _ hy)) (h.join (hl x Fc))
theorem gK{X:Pa}:∀(l:List Pa)(c:Pa),BO g l->Jk g c->Xf c X->(∀y∈l,Xf y X)->Xf (l.foldl vf c) X
 |[],c,_,_,h,_=>h
 |x::l,c,hl,hc,h,h'=>
  have hx:=hl x Fc
  gK l _ (fun y hy=>hl y (Ib _ hy)) (hc.join hx) (.lub hc.toCov hx.toCov h (h' x Fc)) fun y hy=>h' y (Ib _ hy)
theorem tP:∀(l:List Pa)(c:Pa),BO g l->Jk g c->Xf c (l.foldl vf c)/\∀y∈l,Xf y (l.foldl vf c)
 |[],c,_,_=>⟨.refl _,fun y hy=>by cases hy⟩
 |x::l,c,hl,hc=>by
  have hx:=hl x Fc;obtain⟨h1,h2⟩:=tP l (vf c x) (fun y hy=>hl y (Ib _ hy)) (hc.join hx);refine⟨.trans (.left hc.toCov hx.toCov) h1,fun y hy=> ?_⟩;rcases Vb.1 hy with rfl|hy
  ·exact .trans (.right hc.toCov hx.toCov) h1
  ·exact h2 y hy
theorem bak{l:List Pa}(h:BO g l):Jk g (jl g l):=pX l _ h (OG g)
theorem Raa{l:List Pa}{X:Pa}(h:BO g l)(h':∀y∈l,Xf y X):Xf (jl g l) X:=gK l _ h (OG g) XR h'
theorem Saf{l:List Pa}(h:BO g l){y:Pa}(hy:y∈l):Xf y (jl g l):=(tP l _ h (OG g)).2 y hy
theorem X5{l:List Pa}{c:Pa}:jl g (l++[c])=vf (jl g l) c:=by unfold jl;rw[eA];rfl
theorem rae{D:List Int}(hF:Gf g D){fu:Int}(vi:fu<=1000000){s:List Int}(hs:s.length<=9223372036854775807):Jk g (MC g s fu):=⟨B3 hF hs vi,by
 unfold MC;simp only;split
 ·exact List.pairwise_singleton _ _
 ·exact .nil⟩
end
theorem sF(E:List za)(Q:List za)(hQ:Q.Nodup):∀n,n<=Q.length->((Q.take n).foldl Yl E).length=E.length+Yc (fun j=>(!(decide (gx Q j vb∈E))).toNat) n
 |0,_=>by simp[Yc]
 |n+1,h=>by
  have ih:=sF E Q hQ n (by omega);have hn:gx Q n vb∉Q.take n:=fun hm=>by
   obtain⟨j,hj⟩:=List.mem_iff_getElem?.1 hm;have hl:=Xa hj;rw[Nb]at hl;rw[List.getElem?_take_of_lt (by omega),<- Li (d:=vb) (show n<Q.length by omega)]at hj;have:=(List.getElem?_inj (by omega) hQ).1 hj;omega
  rw[Je vb (by omega),eA,Og,List.foldl_nil,Yc,<- Ue,<- ih];by_cases hE:gx Q n vb∈E
  ·rw[Yl,if_pos (Jn.2 (.inl hE)),decide_eq_true hE];rfl
  ·rw[Yl,if_neg (fun hm=>(Jn.1 hm).elim hE hn),decide_eq_false hE,qd];rfl
theorem orS{a b:Bool}:(a||b).toNat=a.toNat+(b&& !a).toNat:=by cases a<;>cases b<;>rfl
theorem pL{g:Ga}{h c:Pa}(hh:Cov g h)(hc:Cov g c):AI (vf h c)=AI h+Ep c h:=by
 have e1:h.1.length=c.1.length:=hh.p.trans hc.p.symm;have e3:h.2.1.length=c.2.1.length:=hh.w.trans hc.w.symm;have l1:(vf h c).1.length=c.1.length:=by show(Ny _ _ _).length=_;rw[List.length_zipWith];omega
 have l2:(vf h c).2.1.length=c.2.1.length:=by show(Ny _ _ _).length=_;rw[List.length_zipWith];omega
 have l3:(vf h c).2.2.length=h.2.2.length+Yc (nE c h) c.2.2.length:=by
  show(qh _).length=_;rw[show ∀l,(qh l).length=l.length from fun l=>(V.Df V.Mt l).length_eq];have:=sF h.2.2 c.2.2 hc.nd c.2.2.length (va _);rw[Hf]at this;exact this
 have one:∀n,Yc (fun _=>1) n=n:=fun n=>by
  induction n with
  |zero=>rfl
  |succ n ih=>rw[Yc,ih]
 have s1:Yc (fun i=>(gx (vf h c).1 i false).toNat) c.1.length=Yc (fun i=>(gx h.1 i false).toNat) c.1.length+Yc (nP c h) c.1.length:=by
  rw[<- eB];refine su _ fun i _=> ?_
  show(gx (Xp _ _) i false).toNat=_;rw[SB e1,orS]
 have s2:Yc (fun i=>(gx (vf h c).2.1 i (false,false)).1.toNat+(gx (vf h c).2.1 i (false,false)).2.toNat) c.2.1.length=Yc (fun i=>(gx h.2.1 i (false,false)).1.toNat+(gx h.2.1 i (false,false)).2.toNat) c.2.1.length+Yc (nW c h) c.2.1.length:=by
  rw[<- eB];refine su _ fun i _=> ?_
  show(gx (sn _ _) i (false,false)).1.toNat+(gx (sn _ _) i (false,false)).2.toNat=_;rw[To e3];simp only[orS,nW];omega
 show _=AI h+(Yc (nP c h) _+Yc (nW c h) _+Yc (nE c h) _);unfold AI;rw[l1,l2,l3,s1,s2,e1,e3,one,one];omega
section
variable {α:Type}(C:Int->α)
def Tw(l:List Int):List (Int×α):=l.map fun i=>(i,C i)
theorem Uv(i:Int):∀l:List Int,QB (k:= .int .i64) i (Tw C l)=decide (i∈l)
 |[]=>rfl
 |j::l=>by
  show(decide (i=j)||QB (k:= .int .i64) i (Tw C l))=_;rw[Uv i l,<- Bool.decide_or];simp
theorem Xv(i:Int)(d:α):∀l:List Int,i∈l->Eu (k:= .int .i64) i d (Tw C l)=C i
 |j::l,h=>by
  show cond (decide (i=j)) (C j) (Eu (k:= .int .i64) i d (Tw C l))=_;by_cases e:i=j
  ·rw[decide_eq_true e,e];rfl
  ·rw[decide_eq_false e];exact Xv i d l ((Vb.1 h).resolve_left e)
theorem fB(i:Int):∀l:List Int,i∉l->Ix (k:= .int .i64) i (C i) (Tw C l)=Tw C (l++[i])
 |[],_=>rfl
 |j::l,h=>by
  show cond (decide (i=j)) _ ((j,C j)::Ix (k:= .int .i64) i (C i) (Tw C l))=_;have e:¬i=j:=fun e=>h (by rw[e];exact Fc)
  rw[decide_eq_false e,fB i l fun hm=>h (Ib _ hm)];rfl
theorem eL(i:Int):∀l:List Int,Yz (k:= .int .i64) i (Tw C l)=Tw C (l.erase i)
 |[]=>rfl
 |j::l=>by
  show cond (decide (i=j)) (Tw C l) ((j,C j)::Yz (k:= .int .i64) i (Tw C l))=_;by_cases e:i=j
  ·rw[decide_eq_true e,e,List.erase_cons_head];rfl
  ·rw[decide_eq_false e,eL i l,List.erase_cons_tail (by simpa using fun h=>e h.symm)];rfl
end
def mD(v:Nat->Nat):Nat->Int×Nat
 |0=>(-1,0)
 |n+1=>if(mD v n).2<v n then((n:Int),v n)else mD v n
theorem nO(v:Nat->Nat):∀n,(mD v n=(-1,0)/\∀i,i<n->v i=0)\/∃j,j<n/\mD v n=((j:Int),v j)/\0<v j
 |0=> .inl ⟨rfl,fun i h=>by omega⟩
 |n+1=>by
  unfold mD;by_cases h:(mD v n).2<v n
  ·rw[if_pos h];exact .inr ⟨n,by omega,rfl,by omega⟩
  ·rw[if_neg h];rcases nO v n with⟨h1,h2⟩|⟨j,h1,h2,h3⟩
   ·refine .inl ⟨h1,fun i hi=> ?_⟩;by_cases e:i=n
    ·subst e;rw[h1]at h;omega
    ·exact h2 i (by omega)
   ·exact .inr ⟨j,by omega,h2,h3⟩
end Go.U
end
