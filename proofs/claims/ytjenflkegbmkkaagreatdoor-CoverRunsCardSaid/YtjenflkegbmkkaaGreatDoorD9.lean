/- What these Lean functions compute: plain arithmetic of congruences, the checks of a graph, the values of its registers. -/
import Derived.Test.YtjenflkegbmkkaaGreatDoorD8
import Derived.Test.YtjenflkegbmkkaaGreatDoorD7
set_option linter.unusedVariables false
set_option linter.unusedSimpArgs false
set_option linter.unusedSectionVars false
open Int renaming toNat_natCast→La,lt_irrefl→Xb
open List renaming mem_of_getElem?→Nb
open Nat renaming add_mul→Me,le_refl→va,add_zero→Je,add_assoc→Hf,zero_add→Re
open Option renaming bind_some→ga
section
set_option maxRecDepth 20000
namespace Go.U
open Go
theorem F_{S:Nat}(hS:S<=maxLen){l:List (List Int)}(h:AE S (.slice (.slice (.int .i64))) l):ShL l:=fun s hs=>V_ hS (h.2 s hs)
theorem YQ{l:List (List Int)}(hn:l.length<=9223372036854775807)(h:ShL l):HC l:=⟨hn,fun i hi=>h _ (Nb (gp (d:=[]) hi))⟩
end Go.U
end
section
set_option maxRecDepth 20000
namespace Go.U
open Go
def yc(f:Nat->Nat):Nat->Nat
 |0=>0
 |n+1=>yc f n+f n
theorem uf{f:Nat->Nat}{k:Nat}(h:∀i,f i<=k):∀n,yc f n<=n * k
 |0=>by simp[yc]
 |n+1=>by
  have:=uf h n;have:=h n;rw[yc,Me,Nat.one_mul];omega
abbrev ff:Bool×Bool:=(false,false)
def bU(c:vb):Nat:=yc (fun i=>(gx c.1 i false).toNat) c.1.length+yc (fun i=>(gx c.2.1 i (false,false)).1.toNat+(gx c.2.1 i (false,false)).2.toNat) c.2.1.length+yc (fun _=>1) c.2.2.length
theorem toNat_le(b:Bool):b.toNat<=1:=by cases b<;>decide
theorem Cad{N:Nat}(hN:N<=4096){c:vb}(h:Ti N c):bU c<=2000000:=by
 have h1:=uf (f:=fun i=>(gx c.1 i false).toNat) (k:=1) (fun i=>toNat_le _) c.1.length;have h2:=uf (f:=fun i=>(gx c.2.1 i (false,false)).1.toNat+(gx c.2.1 i (false,false)).2.toNat) (k:=2) (fun i=>by have:=toNat_le (gx c.2.1 i (false,false)).1;have:=toNat_le (gx c.2.1 i (false,false)).2;omega) c.2.1.length;have h3:=uf (f:=fun _=>1) (k:=1) (fun i=>va _) c.2.2.length;have:=h.p;have:=h.w;have:=h.e;unfold bU;omega
theorem eI{step:Int×Int->Option ((Int×Int) ⊕ Int)}{n:Nat}{f:Nat->Nat}{a:Nat}(hn:n<=9223372036854775807)(hs:∀i,i<n->step ((i:Int),((a+yc f i:Nat):Int))=some (.inl (((i+1:Nat):Int),((a+yc f (i+1):Nat):Int))))(he:step ((n:Int),((a+yc f n:Nat):Int))=some (.inr ((a+yc f n:Nat):Int))):
  Ma step (0,(a:Int))=some ((a+yc f n:Nat):Int):=
 Xc (step:=step) (n:=n) (fun i=>((i:Int),((a+yc f i:Nat):Int))) _ (by omega) (fun t=>n-t.1.toNat) (fun i _=>by simp) hs he
theorem pM(c:vb)(hn:c.1.length<=4096)(a:Nat)(ha:a<=10000000):Ma (Hi.m (nt c.1.length,c.1,c.2.1,c.2.2)) (0,(a:Int))=some ((a+yc (fun i=>(gx c.1 i false).toNat) c.1.length:Nat):Int):=by
 refine eI (step:=Hi.m (nt c.1.length,c.1,c.2.1,c.2.2)) (n:=c.1.length) (f:=fun i=>(gx c.1 i false).toNat) (a:=a) (by omega) (fun i hi=> ?_) ?_
 ·have h':(i:Int)<(c.1.length:Int):=by omega
  have w:Ea ((i:Int)+1)=((i+1:Nat):Int):=by rw[Qb (by omega) (by omega)];rfl
  have hb:=uf (f:=fun i=>(gx c.1 i false).toNat) (k:=1) (fun i=>toNat_le _) i;have w2:Ea (((a+yc (fun i=>(gx c.1 i false).toNat) i:Nat):Int)+1)=((a+yc (fun i=>(gx c.1 i false).toNat) i+1:Nat):Int):=by rw[Qb (by omega) (by omega)];rfl
  simp only[LD.m,Hi,nt,h',decide_true,cond_true,fg hi,Oa,La,w,yc];cases hg:gx c.1 i false
  ·simp only[cond_false,Bool.toNat_false,Je]
  ·simp only[cond_true,Bool.toNat_true,Dg,Wi,ga,w2,<- Hf]
 ·simp only[LD.m,Hi,nt,Xb,decide_false,cond_false]
theorem nM(c:vb)(i:Nat)(z1 z2:Int)(w:Bool×Bool)(a:Nat)(ha:a<=20000000):Ma (Xf.m ((i:Int),z1,z2,w,c)) (0,(a:Int))=some ((a+(w.1.toNat+w.2.toNat):Nat):Int):=by
 have w0:Ea ((0:Int)+1)=1:=by decide
 have w1:Ea ((1:Int)+1)=2:=by decide
 have wa:∀b:Nat,b<=30000000->Ea ((b:Int)+1)=((b+1:Nat):Int):=fun b hb=>by rw[Qb (by omega) (by omega)];rfl
 have d0:(0:Int)<2:=by decide
 have d1:(1:Int)<2:=by decide
 have d2:¬(1:Int)=0:=by decide
 have s0:Xf.m ((i:Int),z1,z2,w,c) (0,(a:Int))=some (.inl (1,((a+w.1.toNat:Nat):Int))):=by
  simp only[LD.m,Xf,d0,decide_true,cond_true,w0];cases h:w.1
  ·simp only[cond_false,Bool.toNat_false,Je]
  ·simp only[cond_true,Bool.toNat_true,Dg,Wi,ga,wa a (by omega)]
 have s1:Xf.m ((i:Int),z1,z2,w,c) (1,((a+w.1.toNat:Nat):Int))=some (.inl (2,((a+(w.1.toNat+w.2.toNat):Nat):Int))):=by
  simp only[LD.m,Xf,d1,d2,decide_true,decide_false,cond_true,cond_false,w1];have:=toNat_le w.1;cases h:w.2
  ·simp only[cond_false,Bool.toNat_false,Je]
  ·simp only[cond_true,Bool.toNat_true,Dg,Wi,ga,wa (a+w.1.toNat) (by omega),<- Hf]
 have s2:Xf.m ((i:Int),z1,z2,w,c) (2,((a+(w.1.toNat+w.2.toNat):Nat):Int))=some (.inr ((a+(w.1.toNat+w.2.toNat):Nat):Int)):=by
  simp only[LD.m,Xf,Xb,decide_false,cond_false]
 exact Xc (step:=Xf.m ((i:Int),z1,z2,w,c)) (n:=2) (fun k=>if k=0 then(0,(a:Int))else if k=1 then(1,((a+w.1.toNat:Nat):Int))else(2,((a+(w.1.toNat+w.2.toNat):Nat):Int))) _ (by decide) (fun t=>2-t.1.toNat) (fun k hk=>by
  obtain rfl|rfl|rfl:k=0\/k=1\/k=2:=by omega
  ·rfl
  ·rfl
  ·rfl) (fun k hk=>by
  obtain rfl|rfl:k=0\/k=1:=by omega
  ·exact s0
  ·exact s1) s2
theorem oM(c:vb)(hn:c.2.1.length<=4096)(a:Nat)(ha:a<=10000000):Ma (Cj.m (nt c.2.1.length,c.1,c.2.1,c.2.2)) (0,(a:Int))=some ((a+yc (fun i=>(gx c.2.1 i (false,false)).1.toNat+(gx c.2.1 i (false,false)).2.toNat) c.2.1.length:Nat):Int):=by
 refine eI (step:=Cj.m (nt c.2.1.length,c.1,c.2.1,c.2.2)) (n:=c.2.1.length) (f:=fun i=>(gx c.2.1 i (false,false)).1.toNat+(gx c.2.1 i (false,false)).2.toNat) (a:=a) (by omega) (fun i hi=> ?_) ?_
 ·have h':(i:Int)<(c.2.1.length:Int):=by omega
  have w:Ea ((i:Int)+1)=((i+1:Nat):Int):=by rw[Qb (by omega) (by omega)];rfl
  have hb:=uf (f:=fun i=>(gx c.2.1 i (false,false)).1.toNat+(gx c.2.1 i (false,false)).2.toNat) (k:=2) (fun i=>by have:=toNat_le (gx c.2.1 i (false,false)).1;have:=toNat_le (gx c.2.1 i (false,false)).2;omega) i;have e:=nM c i (nt c.2.1.length) (i:Int) (gx c.2.1 i (false,false)) (a+yc (fun i=>(gx c.2.1 i (false,false)).1.toNat+(gx c.2.1 i (false,false)).2.toNat) i) (by omega);simp only[nt]at e;simp only[LD.m,Cj,nt,h',decide_true,cond_true,fg hi,Oa,La,w,yc];have e':Ma (Xf.m ((i:Int),(c.2.1.length:Int),(i:Int),gx c.2.1 i (false,false),c.1,c.2.1,c.2.2)) (0,((a+yc (fun i=>(gx c.2.1 i (false,false)).1.toNat+(gx c.2.1 i (false,false)).2.toNat) i:Nat):Int))=_:=e;rw[e',ga,Hf]
 ·simp only[LD.m,Cj,nt,Xb,decide_false,cond_false]
theorem SJ(c:vb)(hn:c.2.2.length<=1000000)(a:Nat)(ha:a<=10000000):Ma (Th.m (nt c.2.2.length,c.1,c.2.1,c.2.2)) (0,(a:Int))=some ((a+yc (fun _=>1) c.2.2.length:Nat):Int):=by
 refine eI (step:=Th.m (nt c.2.2.length,c.1,c.2.1,c.2.2)) (n:=c.2.2.length) (f:=fun _=>1) (a:=a) (by omega) (fun i hi=> ?_) ?_
 ·have h':(i:Int)<(c.2.2.length:Int):=by omega
  have w:Ea ((i:Int)+1)=((i+1:Nat):Int):=by rw[Qb (by omega) (by omega)];rfl
  have hb:=uf (f:=fun _=>1) (k:=1) (fun i=>va _) i;have w2:Ea (((a+yc (fun _=>1) i:Nat):Int)+1)=((a+yc (fun _=>1) i+1:Nat):Int):=by rw[Qb (by omega) (by omega)];rfl
  simp only[LD.m,Th,nt,h',decide_true,cond_true,fg hi,Oa,La,w,Dg,Wi,ga,w2,yc,<- Hf]
 ·simp only[LD.m,Th,nt,Xb,decide_false,cond_false]
theorem iad{N:Nat}(hN:N<=4096){c:vb}(h:Ti N c):Mt (c.1,c.2.1,c.2.2)=some (bU c:Int):=by
 have hp:=h.p;have hw:=h.w;have he:=h.e;have hc:=Cad hN h;unfold bU at hc;have e1:=pM c (by omega) 0 (by omega);have e2:=oM c (by omega) (0+yc (fun i=>(gx c.1 i false).toNat) c.1.length) (by omega);have e3:=SJ c he (0+yc (fun i=>(gx c.1 i false).toNat) c.1.length+yc (fun i=>(gx c.2.1 i (false,false)).1.toNat+(gx c.2.1 i (false,false)).2.toNat) c.2.1.length) (by omega);have e:Es (c.1,c.2.1,c.2.2,0)=some (bU c:Int):=by
  unfold Es sA;simp only;have e1':Ma (Hi.m (nt c.1.length,c.1,c.2.1,c.2.2)) (0,0)=_:=e1;rw[e1',ga];rw[e2,ga,e3,ga];unfold bU;rw[Re]
 unfold Mt ZP;simp only[PD.m,ZB];rw[e];rfl
end Go.U
end
