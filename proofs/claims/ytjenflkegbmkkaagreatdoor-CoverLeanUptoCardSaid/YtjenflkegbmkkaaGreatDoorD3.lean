/- What these Lean functions compute: plain arithmetic of congruences, the checks of a graph, the values of its registers. -/
import Derived.Test.YtjenflkegbmkkaaGreatDoorD2
set_option linter.unusedVariables false
set_option linter.unusedSimpArgs false
set_option linter.unusedSectionVars false
open Bool renaming not_true→nh,not_false→we
open Int renaming toNat_natCast→Ca,lt_irrefl→Pb,eq_ofNat_of_zero_le→Kf,le_refl→xh,toNat→fa
open List renaming length→da,getElem?_eq_none→Ab,countP→me,getElem?_eq_getElem→Aa,getD_eq_getElem?_getD→Ka,getElem?_set→Ob,length_set→Td,replicate→Ba,getElem?_replicate→Wi
open Nat renaming not_lt_zero→xj,lt_or_ge→Ub,le_refl→va,le_trans→Gb
open Option renaming bind_some→ga
open Option.some renaming inj→Sj
section
set_option maxRecDepth 20000
namespace Go.U
open Go
theorem DT(p):∃r,yy.m p=some r:=by
 simp only[PD.m,yy]
 repeat (first|exact oc _|(refine Xc ?_ ?_))
theorem NF(p):∃r,Vq.m p=some r:=by
 simp only[PD.m,Vq]
 repeat (first|exact oc _|(refine Xc ?_ ?_))
theorem uy(p):∃r,xy.m p=some r:=by
 simp only[PD.m,xy]
 repeat (first|exact oc _|(refine Xc ?_ ?_))
theorem sy(p):∃r,vy.m p=some r:=by
 simp only[PD.m,vy]
 repeat (first|exact oc _|(refine Xc ?_ ?_))
theorem MF(p):∃r,Uq.m p=some r:=by
 simp only[PD.m,Uq]
 repeat (first|exact oc _|(refine Xc ?_ ?_))
theorem Had(a:Wa):Tp (a.1=2\/a.1=3->a.2.2.2.1=0) (lC a):=by
 unfold lC BQ;obtain⟨e1,h1⟩:=DT a;rw[h1,ga];by_cases hB:a.2.2.2.1=0
 ·obtain⟨r,h⟩:=yg (NF (e1,a)) fun e2 _=>yg (uy (e1,e2,a)) fun e3 _=>yg (sy (e1,e2,e3,a)) fun e4 _=>yg (MF (e1,e2,e3,e4,a)) fun e5 _=>oc e5
  exact⟨r,h,fun _ _=>hB⟩
 ·by_cases MB:a.1=2\/a.1=3
  ·have h2:Vq.m (e1,a)=some true:=by
    simp only[PD.m,Vq];rcases MB with MB|MB<;>simp only[MB,decide_true,cond_true]<;>cases e1<;>rfl
   rw[h2,ga];obtain⟨e3,h3⟩:=uy (e1,true,a);rw[h3,ga];obtain⟨e4,h4⟩:=sy (e1,true,e3,a);rw[h4,ga];have h5:Tp (a.1=2\/a.1=3->a.2.2.2.1=0) (Uq.m (e1,true,e3,e4,a)):=by
    simp only[PD.m,Uq,nh,cond_false,hB,decide_false]
    repeat (first|exact Bi|refine iA ?_ ?_)
   obtain⟨r,q1,q2⟩:=h5;rw[q1];exact⟨r,rfl,q2⟩
  ·obtain⟨r,h⟩:=yg (NF (e1,a)) fun e2 _=>yg (uy (e1,e2,a)) fun e3 _=>yg (sy (e1,e2,e3,a)) fun e4 _=>yg (MF (e1,e2,e3,e4,a)) fun e5 _=>oc e5
   exact⟨r,h,fun _ k=>absurd k MB⟩
theorem Sac(a b:Int):vz (a,b)=some (decide (0<=a)&&decide (a<b)):=by
 unfold vz dQ;simp only;by_cases h:0<=a<;>simp[h]
def yO(x:Wa)(n:Int):Prop:=(x.1=15->(0<=x.2.2.2.2.2.2.1/\x.2.2.2.2.2.2.1<n)/\0<=x.2.2.2.2.2.2.2/\x.2.2.2.2.2.2.2<n)/\(x.1=21->x.2.2.2.2.2.2.1= -1/\x.2.2.2.2.2.2.2= -1)/\(x.1≠15->x.1≠21->(0<=x.2.2.2.2.2.2.1/\x.2.2.2.2.2.2.1<n)/\x.2.2.2.2.2.2.2= -1)
theorem Ead(x:Wa)(n:Int)(hn:0<=n):∃r,kC (x,n)=some r/\(r=true->yO x n):=by
 unfold kC AQ;simp only[Sac,ga];by_cases h1:x.1=15
 ·simp only[h1,decide_true,cond_true];cases hb:(decide (0<=x.2.2.2.2.2.2.1)&&decide (x.2.2.2.2.2.2.1<n))
  ·exact⟨false,rfl,fun h=>by cases h⟩
  ·simp at hb;exact⟨_,rfl,fun h=>by simp at h;exact⟨fun _=>⟨hb,h⟩,fun k=>by omega,fun k=>absurd h1 k⟩⟩
 ·simp only[h1,decide_false,cond_false];by_cases h2:x.1=21
  ·simp only[h2,decide_true,cond_true];by_cases h3:x.2.2.2.2.2.2.1= -1
   ·simp only[h3,decide_true,cond_true];exact⟨_,rfl,fun h=>by simp at h;exact⟨fun k=>absurd k h1,fun _=>⟨h3,h⟩,fun _ k=>absurd h2 k⟩⟩
   ·simp only[h3,decide_false,cond_false];exact⟨false,rfl,fun h=>by cases h⟩
  ·simp only[h2,decide_false,cond_false];cases hb:(decide (0<=x.2.2.2.2.2.2.1)&&decide (x.2.2.2.2.2.2.1<n))
   ·exact⟨false,rfl,fun h=>by cases h⟩
   ·simp at hb;exact⟨_,rfl,fun h=>by simp at h;exact⟨fun k=>absurd k h1,fun k=>absurd k h2,fun _ _=>⟨hb,h⟩⟩⟩
def qe(a:Wa):List Int:=
 cond (decide (a.1=2)) [a.2.2.1] (cond (decide (a.1=3)) [a.2.2.1] (cond (decide (a.1=13)) [a.2.2.1] (cond (decide (a.1=4)) [a.2.2.1,a.2.2.2.1] (cond (decide (a.1=5)) [a.2.2.1,a.2.2.2.1] (cond (decide (a.1=6)) [a.2.2.1,a.2.2.2.1]
 (cond (decide (a.1=7)) [a.2.2.1,a.2.2.2.1] (cond (decide (a.1=8)) [a.2.2.1,a.2.2.2.1] (cond (decide (a.1=9)) [a.2.2.1,a.2.2.2.1] (cond (decide (a.1=10)) [a.2.2.1,a.2.2.2.1] (cond (decide (a.1=15)) [a.2.2.1,a.2.2.2.1] (cond (decide (a.1=11)) [a.2.2.2.1] (cond (decide (a.1=14)) [a.2.1,a.2.2.2.1] []))))))))))))
theorem rE{α:Type}{b:Bool}{x y:α}:cond b (some x) (some y)=some (cond b x y):=by cases b<;>rfl
theorem Bad(a:Wa):LF a=some (qe a):=by
 unfold LF zQ qe;simp only[rE]
theorem D3{b:Bool}{l m:List Int}(h1:l.length<=2)(h2:m.length<=2):(cond b l m).length<=2:=by cases b<;>assumption
theorem Q7(a:Wa):(qe a).length<=2:=by
 unfold qe
 repeat (first|exact(show(0:Nat)<=2 by decide)|exact(show(1:Nat)<=2 by decide)|exact(show(2:Nat)<=2 by decide)|refine D3 ?_ ?_)
def Use(g:Ga)(D:List Int)(i:Nat)(x:Int):Prop:=0<=x/\x<g.2.2.1/\(((Mf g).length:Int)<=x->gx D (x-((Mf g).length:Int)).toNat 0<(i:Int))
theorem Caa{g:Ga}{D:List Int}(hD:Kr g D)(hS:(Mf g).length<=64)(i:Nat)(x:Int)(a b c e f j)(y:Wa):∃r,ny.m (D,(i:Int),x,a,b,c,e,f,j,(g,y))=some r/\(r=false->Use g D i x):=by
 simp only[PD.m,ny,nt];by_cases h1:x<0
 ·simp only[h1,decide_true,cond_true];exact⟨true,rfl,fun h=>by cases h⟩
 ·by_cases h2:g.2.2.1<=x
  ·simp only[h1,h2,decide_true,decide_false,cond_true,cond_false];exact⟨true,rfl,fun h=>by cases h⟩
  ·simp only[h1,h2,decide_false,cond_false];have hr:=hD.wD;have hl:=hD.len;by_cases h3:((Mf g).length:Int)<=x
   ·have h3':(da g.2.2.2.2.2.1:Int)<=x:=h3;simp only[h3',decide_true,cond_true];have w:Ea (x-(da g.2.2.2.2.2.1:Int))=x-((Mf g).length:Int):=Lb (by show _<=x-((Mf g).length:Int);omega) (by show x-((Mf g).length:Int)<=_;omega);simp only[w,Xi (show 0<=x-((Mf g).length:Int)by omega) (show x-((Mf g).length:Int)<(D.length:Int)by omega),Ma];exact⟨_,rfl,fun h=>⟨by omega,by omega,fun _=>by simpa using h⟩⟩
   ·have h3':¬(da g.2.2.2.2.2.1:Int)<=x:=h3;simp only[h3',decide_false,cond_false];exact⟨false,rfl,fun _=>⟨by omega,by omega,fun h=>absurd h h3⟩⟩
theorem Oaa{g:Ga}{D:List Int}(hD:Kr g D)(hS:(Mf g).length<=64)(i:Nat)(y:Wa)(l:List Int)(hl:l.length<=2)(a b c):
  ∃e,Ia (Mq.m (D,(i:Int),a,b,c,l,nt l.length,g,y)) 0=some e/\((∃u,e= .inl u)\/(∃u,e= .inr u)/\∀x∈l,Use g D i x):=by
 refine di (n:=l.length) (step:=Mq.m (D,(i:Int),a,b,c,l,nt l.length,g,y)) (by omega) (fun k=>∀j,j<k->Use g D i (gx l j 0)) (fun e=>(∃u,e= .inl u)\/(∃u,e= .inr u)/\∀x∈l,Use g D i x) (fun j h=>absurd h (xj _)) (fun k hk hI=> ?_) (fun hI=> ?_)
 ·have h':(k:Int)<(l.length:Int):=by omega
  simp only[LD.m,Mq,nt,h',decide_true,cond_true,ag hk,Ma,Ca];obtain⟨r,h1,h2⟩:=Caa hD hS i (gx l k 0) a b c l (nt l.length) (k:Int) y;simp only[nt]at h1;rw[h1];simp only[ga];cases r
  ·exact lz fun j hj=>by
    by_cases e:j=k
    ·subst e;exact h2 rfl
    ·exact hI j (by omega)
  ·exact Hj (.inl ⟨(),rfl⟩)
 ·simp only[LD.m,Mq,nt,Pb,decide_false,cond_false];exact⟨_,rfl,.inr ⟨⟨(),rfl⟩,fun x hx=>by
   obtain⟨j,hj⟩:=List.mem_iff_getElem?.1 hx;have tc:j<l.length:=by rcases Ub j l.length with h|h;exact h;rw[Ab h]at hj;cases hj
   have:=hI j tc;rw[Vv hj]at this;exact this⟩⟩
end Go.U
end
section
set_option maxRecDepth 20000
namespace Go.U
open Go
def Fn(P:Prop)(x:Option Bool):Prop:=∃r,x=some r/\(r=false->P)
theorem Hh{P:Prop}{b:Bool}{x y:Option Bool}(hx:b=true->Fn P x)(hy:b=false->Fn P y):Fn P (cond b x y):=by
 cases b
 ·exact hy rfl
 ·exact hx rfl
theorem Oi{P:Prop}:Fn P (some true):=⟨true,rfl,fun h=>by cases h⟩
theorem oA{P:Prop}{b:Bool}(h:b=false->P):Fn P (some b):=⟨b,rfl,h⟩
theorem O6{α:Type}{P:Prop}{x:Option α}{f:α->Option Bool}(hx:∃r,x=some r)(hf:∀a,x=some a->Fn P (f a)):Fn P (x.bind f):=by
 obtain⟨a,h⟩:=hx;rw[h];exact hf a h
structure Idx(g:Ga)(y:Wa):Prop where
 k11:y.1=11\/y.1=14->0<=y.2.2.1/\y.2.2.1<((be g).length:Int)
 k12:y.1=12->0<=y.2.2.1/\y.2.2.1<((XU g).length:Int)
 k13:y.1=13->0<=y.2.1/\y.2.1<((Mf g).length:Int)
theorem L5(p):my.m p=some (decide (p.2.2.2.2.2.1=(11:Int))||decide (p.2.2.2.2.2.1=(14:Int))):=by
 simp only[PD.m,my];cases decide (p.2.2.2.2.2.1=(11:Int))<;>rfl
theorem zaa(g:Ga)(y:Wa)(D l n t):Fn (Idx g y) (jy.m (D,(decide (y.1=(11:Int))||decide (y.1=(14:Int))),l,n,t,g,y)):=by
 simp only[PD.m,jy,nt]
 repeat' (first|exact Oi|(refine oA fun h=> ?_)|(refine Hh (fun h=> ?_) (fun h=> ?_)))
 all_goals
  rename_i h1;refine⟨fun k=> ?_,fun k=> ?_,fun k=> ?_⟩
 all_goals simp_all [be,XU,Mf]
 all_goals (first|omega|(have q:=of_decide_eq_false ‹decide (_<=_)=false›;omega))
structure Good(g:Ga)(D:List Int)(j:Nat):Prop where
 use:∀x∈qe (at' g j),Use g D j x
 idx:Idx g (at' g j)
 Yr:yO (at' g j) (g.1.length:Int)
 op:1<=(at' g j).1/\(at' g j).1<=21
 un:(at' g j).1=2\/(at' g j).1=3->(at' g j).2.2.2.1=0
 KE:(at' g j).1=15->14<=(at' g j).2.2.2.2.1/\(at' g j).2.2.2.2.1<=19
theorem J7{g:Ga}{D:List Int}(hD:Kr g D)(hS:(Mf g).length<=64){i:Nat}{y:Wa}(hu:∀x∈qe y,Use g D i x)(hi:Idx g y)(hG:∀j,j<i->Good g D j):∃r,EF (g,D,y)=some r:=by
 unfold EF cQ;simp only[nt];refine Xc (oc _) (Xc (oc _) (Xc (oc _) (Xc (oc _) (Xc (oc _) (Xc (oc _) (Xc (oc _) (Xc (oc _) ?_)))))));by_cases h14:y.1=14
 ·obtain⟨a,b⟩:=hi.k11 (.inr h14);have b':y.2.2.1<(da g.2.2.2.2.2.2.1:Int):=b;simp only[h14,decide_true,cond_true,Xi a b',Ma];exact Xc (oc _) (oc _)
 ·simp only[h14,decide_false,cond_false];refine Xc (oc _) ?_;by_cases h13:y.1=13
  ·obtain⟨a,b⟩:=hi.k13 h13;have b':y.2.1<(da g.2.2.2.2.2.1:Int):=b;simp only[h13,decide_true,cond_true,Xi a b',Ma];by_cases hs:(da g.2.2.2.2.2.1:Int)<=y.2.2.1
   ·simp only[hs,decide_true,cond_true];have aH:y.2.2.1∈qe y:=by simp[qe,h13]
    obtain⟨u1,u2,u3⟩:=hu _ aH;have hr:=hD.wD;have hl:=hD.len;have jV:((Mf g).length:Int)<=y.2.2.1:=hs;have u3:=u3 jV;obtain⟨k,hk⟩:=Kf (show 0<=y.2.2.1-((Mf g).length:Int)by omega);have w:Ea (y.2.2.1-(da g.2.2.2.2.2.1:Int))=(k:Int):=by
     show Ea (y.2.2.1-((Mf g).length:Int))=_;rw[hk,Lb (by omega) (by omega)]
    have B9:k<D.length:=by omega
    obtain⟨j,d1,d2,d3,d4⟩:=hD.dn k B9;rw[hk,Ca,Vv d1]at u3;have hji:j<i:=by omega
    have gj:=hG j hji;simp only[w,ag B9,Ma,Ca,Vv d1,ag d2];by_cases h12:(gx g.1 j Ta).1=12
    ·obtain⟨i1,i2⟩:=gj.idx.k12 h12;have i1:0<=(gx g.1 j Ta).2.2.1:=i1;have i2':(gx g.1 j Ta).2.2.1<(da g.2.2.2.2.1:Int):=i2;simp only[h12,decide_true,cond_true,Xi i1 i2',Ma];refine yg (VH _) fun _ _=>Xc (yg (fQ _) fun _ _=>Xc (oc _) (oc _)) (oc _)
    ·simp only[h12,decide_false,cond_false];exact oc _
   ·simp only[hs,decide_false,cond_false];exact oc _
  ·simp only[h13,decide_false,cond_false];exact oc _
theorem P7{g:Ga}{D:List Int}(hD:Kr g D)(hS:(Mf g).length<=64){i:Nat}{y:Wa}(hu:∀x∈qe y,Use g D i x)(hi:Idx g y)(hG:∀j,j<i->Good g D j):∃r,Dw (g,D,y)=some r:=by
 unfold Dw yQ;refine yg (J7 hD hS hu hi hG) fun r _=>Xc (oc _) (Xc ?_ (oc _))
 by_cases h1:(0:Int)<y.2.2.2.2.2.1
 ·simp only[h1,decide_true,cond_true,nt];by_cases h2:y.2.2.2.2.2.1<(da g.2.2.2.2.2.2.2:Int)
  ·simp only[h2,decide_true,cond_true,Xi (Int.le_of_lt h1) h2,Ma];exact oc _
  ·simp only[h2,decide_false,cond_false];exact oc _
 ·simp only[h1,decide_false,cond_false];exact oc _
theorem yaa{g:Ga}{D:List Int}(hD:Kr g D)(hS:(Mf g).length<=64){i:Nat}{y:Wa}(hu:∀x∈qe y,Use g D i x)(hi:Idx g y)(hG:∀j,j<i->Good g D j)(a b c):Fn (y.1=15->14<=y.2.2.2.2.1/\y.2.2.2.2.1<=19) (iy.m (D,a,b,c,g,y)):=by
 simp only[PD.m,iy];have h42:=P7 hD hS hu hi hG
 repeat' (first|exact Oi|(refine Hh (fun h=> ?_) (fun h=> ?_))|(refine O6 h42 fun _ _=> ?_)|(refine oA fun h=> ?_))
 all_goals
  intro k;simp_all
theorem Good.nx{g:Ga}{D:List Int}{j:Nat}(h:Good g D j):(at' g j).2.2.2.2.2.2.1<(g.1.length:Int)/\(at' g j).2.2.2.2.2.2.2<(g.1.length:Int):=by
 obtain⟨h1,h2,h3⟩:=h.Yr;by_cases k1:(at' g j).1=15
 ·have:=h1 k1;omega
 ·by_cases k2:(at' g j).1=21
  ·have:=h2 k2;omega
  ·have:=h3 k1 k2;omega
theorem Eaf(g:Ga)(y:Wa)(D a b c d):Fn (yO y (g.1.length:Int)/\(1<=y.1/\y.1<=21)/\(y.1=2\/y.1=3->y.2.2.2.1=0)) (zF.m (D,a,b,c,d,g,y)):=by
 simp only[PD.m,zF];obtain⟨r,h1,h2⟩:=Ead y (nt g.1.length) (by simp only[nt];omega);refine Hh (fun _=>Oi) fun c1=>Hh (fun _=>Oi) fun c2=>Hh (fun _=>Hh (fun _=>Oi) fun _=> ?_) fun _=> ?_
 all_goals
  have c1:=of_decide_eq_false c1;have c2:=of_decide_eq_false c2;obtain⟨u,u1,u2⟩:=Had y;rw[u1,ga];refine Hh (fun _=>Oi) fun cu=> ?_
  rw[h1];exact oA fun h=>⟨h2 (by simpa using h),⟨by omega,by omega⟩,u2 (by simpa using cu)⟩
theorem Maf{g : Ga}{D : List Int}(hL : g.1.length ≤ 4096)(hD : Kr g D)(hS : (Mf g).length ≤ 64) :
    ∃e, Ia (rz.m (D, g.1, nt g.1.length, g)) 0 = some e ∧ ((∃u, e = .inl u) ∨ (∃u, e = .inr u) ∧ ∀j, j < g.1.length → Good g D j) := by
  refine di (n := g.1.length) (step := rz.m (D, g.1, nt g.1.length, g)) (by omega) (fun k => ∀j, j < k → Good g D j) (fun e => (∃u, e = .inl u) ∨ (∃u, e = .inr u) ∧ ∀j, j < g.1.length → Good g D j) (fun j h => absurd h (xj _)) (fun k hk hI => ?_) (fun hI => ?_)
  · have h' : (k : Int) < (g.1.length : Int) := by omega
    obtain⟨y, hy⟩ : ∃y, gx g.1 k Ta = y := ⟨_, rfl⟩
    have Ro : at' g k = y := hy
    simp only[LD.m, rz, nt, h', decide_true, cond_true, ag hk, Ma, Ca, hy]
    obtain⟨r, q1, q2⟩ := Eaf g y D (k : Int) g.1 (g.1.length : Int) (k : Int)
    rw[q1]
    simp only[ga]
    cases r
    · simp only[cond_false]
      rw[Bad]
      simp only[ga]
      obtain⟨e, l1, l2⟩ := Oaa hD hS k y (qe y) (Q7 y) g.1 (g.1.length : Int) (k : Int)
      simp only[nt]at l1
      rw[l1]
      simp only[ga]
      rcases l2 with⟨u, rfl⟩ | ⟨⟨u, rfl⟩, hu⟩
      · exact Hj (.inl ⟨(), rfl⟩)
      · simp only[Sum.elim_inr]
        rw[L5]
        simp only[ga]
        obtain⟨r, w1, w2⟩ := zaa g y D g.1 (g.1.length : Int) (k : Int)
        rw[w1]
        simp only[ga]
        cases r
        · simp only[cond_false]
          have hi := w2 rfl
          obtain⟨b, v1, v2⟩ := yaa hD hS hu hi hI g.1 (g.1.length : Int) (k : Int)
          rw[v1]
          simp only[ga]
          cases b
          · exact lz fun j hj => by
              by_cases e : j = k
              · subst e; exact⟨by rw[Ro]; exact hu, by rw[Ro]; exact hi, by rw[Ro]; exact(q2 rfl).1, by rw[Ro]; exact(q2 rfl).2.1, by rw[Ro]; exact(q2 rfl).2.2, by rw[Ro]; exact v2 rfl⟩
              · exact hI j (by omega)
          · exact Hj (.inl ⟨(), rfl⟩)
        · exact Hj (.inl ⟨(), rfl⟩)
    · exact Hj (.inl ⟨(), rfl⟩)
  · simp only[LD.m, rz, nt, Pb, decide_false, cond_false]
    exact⟨_, rfl, .inr ⟨⟨(), rfl⟩, hI⟩⟩
end Go.U
end
section
set_option maxRecDepth 20000
namespace Go.U
open Go
def rV(l:List Bool)(n:Int):Prop:=n<0\/gx l n.toNat false=true
theorem Naa(g:Ga)(a b)(nx:za)(l:List Bool)(h1:nx.1<(l.length:Int))(h2:nx.2<(l.length:Int)):∃e,Ia (cp.m (a,b,nx,g,l)) (true,0)=some e/\(e=true->rV l nx.1/\rV l nx.2):=by
 refine Ug (step:=cp.m (a,b,nx,g,l)) (t:=(true,0)) (fun t=>t.2=0\/(t.2=1/\(t.1=true->rV l nx.1))\/(t.2=2/\(t.1=true->rV l nx.1/\rV l nx.2))) (fun t=>2-t.2.toNat) (fun e=>e=true->rV l nx.1/\rV l nx.2) (.inl rfl) (by simp) (fun t ht=> ?_);obtain⟨c,i⟩:=t;simp only at ht;simp only[LD.m,cp];have w0:Ea ((0:Int)+1)=1:=by decide
 have w1:Ea ((1:Int)+1)=2:=by decide
 rcases ht with rfl|⟨rfl,q⟩|⟨rfl,q⟩
 ·have d1:(0:Int)<2:=by decide
  simp only[d1,decide_true,cond_true,w0];refine .inl ?_;cases c
  ·exact⟨_,rfl,.inr (.inl ⟨rfl,fun h=>by cases h⟩),by simp⟩
  ·simp only[cond_true];by_cases hn:nx.1<0
   ·simp only[hn,decide_true,cond_true];exact⟨_,rfl,.inr (.inl ⟨rfl,fun _=> .inl hn⟩),by simp⟩
   ·simp only[hn,decide_false,cond_false,Xi (show 0<=nx.1 by omega) h1,Ma];exact⟨_,rfl,.inr (.inl ⟨rfl,fun h=> .inr h⟩),by simp⟩
 ·have d1:(1:Int)<2:=by decide
  have d2:¬(1:Int)=0:=by decide
  simp only[d1,d2,decide_true,decide_false,cond_true,cond_false,w1];refine .inl ?_;cases c
  ·exact⟨_,rfl,.inr (.inr ⟨rfl,fun h=>by cases h⟩),by simp⟩
  ·simp only[cond_true];by_cases hn:nx.2<0
   ·simp only[hn,decide_true,cond_true];exact⟨_,rfl,.inr (.inr ⟨rfl,fun _=>⟨q rfl,.inl hn⟩⟩),by simp⟩
   ·simp only[hn,decide_false,cond_false,Xi (show 0<=nx.2 by omega) h2,Ma];exact⟨_,rfl,.inr (.inr ⟨rfl,fun h=>⟨q rfl,.inr h⟩⟩),by simp⟩
 ·have d1:¬(2:Int)<2:=by decide
  simp only[d1,decide_false,cond_false];exact .inr ⟨_,rfl,q⟩
def cf(l:List Bool):Nat:=me (fun b=> !b) l
theorem uae{l:List Bool}{i:Nat}(hi:i<l.length)(h:gx l i false=false):cf (l.set i true)<cf l:=by
 unfold cf;rw[List.countP_set hi];have e:l[i]=false:=by
  have:=Li (d:=false) hi;rw[h,Aa hi]at this;exact Sj this
 have:0<me (fun b=> !b) l:=List.countP_pos_iff.2 ⟨false,by rw[<- e];exact List.getElem_mem hi,rfl⟩;simp[e];omega
def aD(g:Ga)(l:List Bool):Prop:=∃rk:Nat->Nat,∀j,gx l j false=true->rk j+cf l<l.length/\((at' g j).1=17\/(at' g j).1=20\/∀n,(n=(at' g j).2.2.2.2.2.2.1\/n=(at' g j).2.2.2.2.2.2.2)->n<0\/(gx l n.toNat false=true/\rk n.toNat<rk j))
theorem Ym{α:Type}{l:List α}{i j:Nat}{d x:α}(hi:i<l.length):gx (l.set i x) j d=if i=j then x else gx l j d:=by
 simp only[gx,Ka,Ob];split
 ·simp[hi]
 ·rfl
theorem v8{l:List Bool}{i:Nat}(hi:i<l.length)(h:gx l i false=false):cf (l.set i true)+1=cf l:=by
 unfold cf;rw[List.countP_set hi];have e:l[i]=false:=by
  have:=Li (d:=false) hi;rw[h,Aa hi]at this;exact Sj this
 have:0<me (fun b=> !b) l:=List.countP_pos_iff.2 ⟨false,by rw[<- e];exact List.getElem_mem hi,rfl⟩;simp[e];omega
theorem kX{g:Ga}{l:List Bool}{i:Nat}(hi:i<l.length)(h:gx l i false=false)(hG:aD g l)(hx:(at' g i).1=17\/(at' g i).1=20\/(rV l (at' g i).2.2.2.2.2.2.1/\rV l (at' g i).2.2.2.2.2.2.2)):aD g (l.set i true):=by
 obtain⟨rk,hr⟩:=hG;have hc:=v8 hi h;have TM:cf l<=l.length:=List.countP_le_length;have Pk:∀{n:Int},gx l n.toNat false=true->gx (l.set i true) n.toNat false=true/\(if n.toNat=i then l.length-cf l else rk n.toNat)=rk n.toNat/\rk n.toNat<l.length-cf l:=fun{n}hn=>by
  have Sc:n.toNat≠i:=fun e=>by rw[e,h]at hn;cases hn
  rw[Ym hi,if_neg (fun e=>Sc e.symm),if_neg Sc];have:=(hr _ hn).1;exact⟨hn,rfl,by omega⟩
 refine⟨fun k=>if k=i then l.length-cf l else rk k,fun j hj=> ?_⟩;simp only[Td];by_cases e:j=i
 ·subst e;rw[if_pos rfl];refine⟨by omega,?_⟩;rcases hx with h1|h1|⟨h1,h2⟩
  ·exact .inl h1
  ·exact .inr (.inl h1)
  ·refine .inr (.inr fun n hn=> ?_);have ho:rV l n:=by rcases hn with rfl|rfl<;>assumption
   rcases ho with ho|ho
   ·exact .inl ho
   ·obtain⟨q1,q2,q3⟩:=Pk ho;exact .inr ⟨q1,by rw[q2];exact q3⟩
 ·rw[Ym hi,if_neg (fun e'=>e e'.symm)]at hj;obtain⟨p1,p2⟩:=hr j hj;rw[if_neg e];refine⟨by omega,p2.imp_right fun p2=>p2.imp_right fun p2 n hn=> ?_⟩;rcases p2 n hn with ho|⟨ho,hl⟩
  ·exact .inl ho
  ·obtain⟨q1,q2,q3⟩:=Pk ho;exact .inr ⟨q1,by rw[q2];exact hl⟩
theorem Naf(g:Ga)(hN:g.1.length<=4096)(hx:∀j,j<g.1.length->(at' g j).2.2.2.2.2.2.1<(g.1.length:Int)/\(at' g j).2.2.2.2.2.2.2<(g.1.length:Int))(l0:List Bool)(UJ:l0.length=g.1.length)(hG0:aD g l0):
  ∃e,Ia (Tq.m g) (false,(Ea ((nt (da g.1))-(1:Int))),l0)=some e/\e.2.length=g.1.length/\aD g e.2/\cf e.2<=cf l0/\(e.1=true->cf e.2<cf l0):=by
 rw[Lb (by simp only[nt];omega) (by simp only[nt];omega)];refine Ug (step:=Tq.m g) (fun t=>(∃n:Nat,n<=g.1.length/\t.2.1=(n:Int)-1)/\t.2.2.length=g.1.length/\aD g t.2.2/\cf t.2.2<=cf l0/\(t.1=true->cf t.2.2<cf l0)) (fun t=>(t.2.1+1).toNat) (fun e=>e.2.length=g.1.length/\aD g e.2/\cf e.2<=cf l0/\(e.1=true->cf e.2<cf l0))
  ⟨⟨g.1.length,va _,rfl⟩,UJ,hG0,va _,fun h=>by cases h⟩ (by simp only[nt];omega) (fun t⟨⟨n,hn,ht⟩,hl,hG,hc,hs⟩=> ?_)
 obtain⟨c,i,l⟩:=t;simp only at ht hl hG hc hs;subst ht;simp only[LD.m,Tq];cases n with
 |zero=>
  have d:¬(0:Int)<=((0:Nat):Int)-1:=by decide
  simp only[d,decide_false,cond_false];exact .inr ⟨_,rfl,hl,hG,hc,hs⟩
 |succ n=>
  have d:(0:Int)<=((n+1:Nat):Int)-1:=by omega
  have e:((n+1:Nat):Int)-1=(n:Int):=by omega
  have Wj:n<l.length:=by omega
  have hng:n<g.1.length:=by omega
  have w:Ea ((n:Int)-1)=(n:Int)-1:=Lb (by omega) (by omega);simp only[d,decide_true,cond_true];rw[e];simp only[ag Wj,ag hng,Ma,Ca,w];refine .inl ?_;cases hg:gx l n false
  ·have hm:=uae Wj hg;have mark:((at' g n).1=17\/(at' g n).1=20\/(rV l (at' g n).2.2.2.2.2.2.1/\rV l (at' g n).2.2.2.2.2.2.2))->∃t',some (Sum.inl (true,((n:Int)-1,l.set n true)))=some (Sum.inl t':(Bool×Int×List Bool) ⊕ (Bool×List Bool))/\((∃m:Nat,m<=g.1.length/\t'.2.1=(m:Int)-1)/\t'.2.2.length=g.1.length/\aD g t'.2.2/\cf t'.2.2<=cf l0/\(t'.1=true->cf t'.2.2<cf l0))/\(t'.2.1+1).toNat<((n:Int)+1).toNat:=fun ho=>
    ⟨_,rfl,⟨⟨n,by omega,rfl⟩,by simpa using hl,kX Wj hg hG ho,by simp only;omega,fun _=>by simp only;omega⟩,by simp only;omega⟩
   have stay:∃t',some (Sum.inl (c,((n:Int)-1,l)))=some (Sum.inl t':(Bool×Int×List Bool) ⊕ (Bool×List Bool))/\((∃m:Nat,m<=g.1.length/\t'.2.1=(m:Int)-1)/\t'.2.2.length=g.1.length/\aD g t'.2.2/\cf t'.2.2<=cf l0/\(t'.1=true->cf t'.2.2<cf l0))/\(t'.2.1+1).toNat<((n:Int)+1).toNat:=
    ⟨_,rfl,⟨⟨n,by omega,rfl⟩,hl,hG,hc,hs⟩,by simp only;omega⟩
   simp only[cond_false];cases h17:(decide ((gx g.1 n Ta).1=(17:Int)))
   ·simp only[we,cond_true];cases h20:(decide ((gx g.1 n Ta).1=(20:Int)))
    ·simp only[we,cond_true];obtain⟨x1,x2⟩:=hx n hng;obtain⟨r,hr,KB⟩:=Naa g c (n:Int) (gx g.1 n Ta).2.2.2.2.2.2 l (by rw[hl];exact x1) (by rw[hl];exact x2);rw[hr];simp only[ga];cases r
     ·exact stay
     ·exact mark (.inr (.inr (KB rfl)))
    ·exact mark (.inr (.inl (of_decide_eq_true h20)))
   ·exact mark (.inl (of_decide_eq_true h17))
  ·simp only[cond_true];exact⟨_,rfl,⟨⟨n,by omega,rfl⟩,hl,hG,hc,hs⟩,by simp only;omega⟩
theorem Uaj{n:Nat}(h:n<=4096):(decide (0<=(n:Int))&&decide ((n:Int)<=(n:Int))&&decide (1 * (n:Int)<=70368744177664)&&decide ((n:Int)<9223372036854775808))=true:=by
 have h1:(0:Int)<=n:=by omega
 have h2:1 * (n:Int)<=70368744177664:=by omega
 have h3:(n:Int)<9223372036854775808:=by omega
 rw[decide_eq_true h1,decide_eq_true (xh _),decide_eq_true h2,decide_eq_true h3];rfl
def Pu(g:Ga)(rk:Nat->Nat):Prop:=∀j,j<g.1.length->rk j<g.1.length/\((at' g j).1=17\/(at' g j).1=20\/∀n,(n=(at' g j).2.2.2.2.2.2.1\/n=(at' g j).2.2.2.2.2.2.2)->n<0\/rk n.toNat<rk j)
theorem wad(g:Ga)(hN:g.1.length<=4096)(hx:∀j,j<g.1.length->(at' g j).2.2.2.2.2.2.1<(g.1.length:Int)/\(at' g j).2.2.2.2.2.2.2<(g.1.length:Int)):∃r,KF g=some r/\(r=true->∃rk,Pu g rk):=by
 unfold KF xQ;have b1:(decide (0<=(nt (da g.1)))&&decide ((nt (da g.1))<=(nt (da g.1)))&&decide (1 * (nt (da g.1))<=70368744177664)&&decide ((nt (da g.1))<9223372036854775808))=true:=Uaj hN;rw[b1,Ma];have hG0:aD g (Ba (fa (nt (da g.1))) false):=⟨fun _=>0,fun j hj=>by
  simp only[gx,Ka,Wi]at hj;split at hj<;>simp at hj⟩
 obtain⟨e,h1,h2,h2g⟩:=Ug (step:=qy.m g) (t:=(true,Ba (fa (nt (da g.1))) false)) (fun t=>t.2.length=g.1.length/\aD g t.2) (fun t=>2 * cf t.2+cond t.1 1 0) (fun e=>e.length=g.1.length/\aD g e) ⟨by simp[nt],hG0⟩ (by
   have:cf (Ba (fa (nt (da g.1))) false)<=4096:=Gb List.countP_le_length (by simp[nt];exact hN);simp only[cond_true];omega) (fun t⟨ht,htG⟩=>by
  obtain⟨c,l⟩:=t;simp only at ht htG;simp only[LD.m,qy];cases c
  ·exact .inr ⟨_,rfl,ht,htG⟩
  ·obtain⟨e,q1,q2,q2g,q3,q4⟩:=Naf g hN hx l ht htG;have q1':Ia (LD.m Tq g) (false,(Ea ((nt (da g.1))-(1:Int))),l)=some e:=q1;simp only[cond_true];refine .inl ⟨(e.1,e.2),?_,⟨q2,q2g⟩,?_⟩
   ·rw[q1'];rfl
   ·cases hb:e.1
    ·simp only[cond_false,cond_true];omega
    ·simp only[cond_true];have:=q4 hb;omega)
 rw[h1];simp only[ga];obtain⟨e2,h3,h4⟩:=di (n:=e.length) (step:=bp.m ((nt (da e)),e)) (by omega) (fun k=>∀i,i<k->gx e i false=true) (fun q=>(∃u,q= .inl u)\/(∃u,q= .inr u)/\∀i,i<e.length->gx e i false=true) (fun i h=>absurd h (xj _)) (fun i hi hI=>by
  have h':(i:Int)<(e.length:Int):=by omega
  simp only[LD.m,bp,nt,h',decide_true,cond_true,ag hi,Ma,Ca];refine Gh (fun _=>Hj (.inl ⟨(),rfl⟩)) (fun c=>lz fun j hj=> ?_);by_cases ej:j=i
  ·subst ej;simpa using c
  ·exact hI j (by omega)) (fun hI=>by
  simp only[LD.m,bp,nt,Pb,decide_false,cond_false];exact⟨_,rfl,.inr ⟨⟨(),rfl⟩,hI⟩⟩)
 rw[h3];simp only[ga];rcases h4 with⟨u,rfl⟩|⟨⟨u,rfl⟩,gg⟩
 ·exact⟨false,rfl,fun h=>by cases h⟩
 ·refine⟨true,rfl,fun _=> ?_⟩;obtain⟨rk,hr⟩:=h2g;refine⟨rk,fun j hj=> ?_⟩;obtain⟨p1,p2⟩:=hr j (gg j (by omega));exact⟨by omega,p2.imp_right fun p2=>p2.imp_right fun p2 n hn=>(p2 n hn).imp_right And.right⟩
structure Gf(g:Ga)(D:List Int):Prop where
 N1:0<g.1.length
 N:g.1.length<=4096
 S:(Mf g).length<=64
 A:(be g).length<=16
 I:kR g
 defs:Kr g D
 JD:∀j,j<g.1.length->Good g D j
 Jaj:∃rk,Pu g rk
theorem Dah{g:Ga}(h:J8 g):∃r,QS g=some r/\(r=true->∃D,Gf g D):=by
 unfold QS p7;have no:∃r,some false=some r/\(r=true->∃D,Gf g D):=⟨false,rfl,fun h=>by cases h⟩;obtain⟨b,hb,HD⟩:Fn ((0<g.1.length/\g.1.length<=4096)/\(Mf g).length<=64/\(be g).length<=16/\kR g) (AF.m g):=by
  simp only[PD.m,AF,nt];refine Hh (fun _=>Oi) fun k1=>Hh (fun _=>Oi) fun k2=>Hh (fun _=>Oi) fun k3=>Hh (fun _=>Oi) fun k4=> ?_
  have k3:=of_decide_eq_false k3;have k4:=of_decide_eq_false k4;have k2:=of_decide_eq_false k2;have k1:=of_decide_eq_false k1;rw[Xi (by omega) (by omega),Ma];refine Hh (fun _=>Oi) fun _=> ?_
  obtain⟨r,q1,q2⟩:=Nad h;rw[q1];exact oA fun hr=>⟨⟨by omega,by omega⟩,q2 (by simpa using hr)⟩
 rw[hb];simp only[ga];cases b
 ·obtain⟨⟨hN1,hN⟩,hS,hA,hI⟩:=HD rfl;simp only[cond_false];obtain⟨r,d1,d2⟩:=Kad g hN hS h.A;rw[d1];simp only[ga];cases hr:r.2
  ·exact no
  ·have hD:=d2 hr;simp only[nh,cond_false];obtain⟨e,l1,l2⟩:=Maf hN hD hS;rw[l1];simp only[ga];rcases l2 with⟨u,rfl⟩|⟨⟨u,rfl⟩,hG⟩
   ·exact no
   ·simp only[Sum.elim_inr];obtain⟨r,hr,hk⟩:=wad g hN fun j hj=>(hG j hj).nx
    rw[hr];exact⟨r,rfl,fun h=>⟨_,hN1,hN,hS,hA,hI,hD,hG,hk h⟩⟩
 ·exact no
end Go.U
end
