/- What these Lean functions compute: plain arithmetic of congruences, the checks of a graph, the values of its registers. -/
import Derived.Test.YtjenflkegbmkkaaGreatDoorD2
set_option linter.unusedVariables false
set_option linter.unusedSimpArgs false
set_option linter.unusedSectionVars false
open Bool renaming not_true→Zf,not_false→gf
open Int renaming toNat_natCast→La,lt_irrefl→Xb,eq_ofNat_of_zero_le→Pf,le_refl→qh,toNat→fa
open List renaming length→da,getElem?_eq_none→Ab,countP→oe,getElem?_eq_getElem→Ba,getD_eq_getElem?_getD→Ia,getElem?_set→Ob,length_set→qe,replicate→Ca,getElem?_replicate→ji
open Nat renaming not_lt_zero→mj,lt_or_ge→Vb,le_refl→va,le_trans→Ib
open Option renaming bind_some→ga
open Option.some renaming inj→Ek
section
set_option maxRecDepth 20000
namespace Go.U
open Go
theorem MS(p):∃r,iy.m p=some r:=by
 simp only[PD.m,iy]
 repeat (first|exact zc _|(refine jd ?_ ?_))
theorem qF(p):∃r,Fq.m p=some r:=by
 simp only[PD.m,Fq]
 repeat (first|exact zc _|(refine jd ?_ ?_))
theorem dy(p):∃r,gy.m p=some r:=by
 simp only[PD.m,gy]
 repeat (first|exact zc _|(refine jd ?_ ?_))
theorem ay(p):∃r,ey.m p=some r:=by
 simp only[PD.m,ey]
 repeat (first|exact zc _|(refine jd ?_ ?_))
theorem pF(p):∃r,Dq.m p=some r:=by
 simp only[PD.m,Dq]
 repeat (first|exact zc _|(refine jd ?_ ?_))
theorem Mac(a:Wa):Tp (a.1=2\/a.1=3->a.2.2.2.1=0) (VB a):=by
 unfold VB KP;obtain⟨e1,h1⟩:=MS a;rw[h1,ga];by_cases hB:a.2.2.2.1=0
 ·obtain⟨r,h⟩:=zg (qF (e1,a)) fun e2 _=>zg (dy (e1,e2,a)) fun e3 _=>zg (ay (e1,e2,e3,a)) fun e4 _=>zg (pF (e1,e2,e3,e4,a)) fun e5 _=>zc e5
  exact⟨r,h,fun _ _=>hB⟩
 ·by_cases CB:a.1=2\/a.1=3
  ·have h2:Fq.m (e1,a)=some true:=by
    simp only[PD.m,Fq];rcases CB with CB|CB<;>simp only[CB,decide_true,cond_true]<;>cases e1<;>rfl
   rw[h2,ga];obtain⟨e3,h3⟩:=dy (e1,true,a);rw[h3,ga];obtain⟨e4,h4⟩:=ay (e1,true,e3,a);rw[h4,ga];have h5:Tp (a.1=2\/a.1=3->a.2.2.2.1=0) (Dq.m (e1,true,e3,e4,a)):=by
    simp only[PD.m,Dq,Zf,cond_false,hB,decide_false]
    repeat (first|exact qi|refine Tz ?_ ?_)
   obtain⟨r,q1,q2⟩:=h5;rw[q1];exact⟨r,rfl,q2⟩
  ·obtain⟨r,h⟩:=zg (qF (e1,a)) fun e2 _=>zg (dy (e1,e2,a)) fun e3 _=>zg (ay (e1,e2,e3,a)) fun e4 _=>zg (pF (e1,e2,e3,e4,a)) fun e5 _=>zc e5
   exact⟨r,h,fun _ k=>absurd k CB⟩
theorem Wab(a b:Int):iz (a,b)=some (decide (0<=a)&&decide (a<b)):=by
 unfold iz mP;simp only;by_cases h:0<=a<;>simp[h]
def IN(x:Wa)(n:Int):Prop:=(x.1=15->(0<=x.2.2.2.2.2.2.1/\x.2.2.2.2.2.2.1<n)/\0<=x.2.2.2.2.2.2.2/\x.2.2.2.2.2.2.2<n)/\(x.1=21->x.2.2.2.2.2.2.1= -1/\x.2.2.2.2.2.2.2= -1)/\(x.1≠15->x.1≠21->(0<=x.2.2.2.2.2.2.1/\x.2.2.2.2.2.2.1<n)/\x.2.2.2.2.2.2.2= -1)
theorem Jac(x:Wa)(n:Int)(hn:0<=n):∃r,SB (x,n)=some r/\(r=true->IN x n):=by
 unfold SB JP;simp only[Wab,ga];by_cases h1:x.1=15
 ·simp only[h1,decide_true,cond_true];cases hb:(decide (0<=x.2.2.2.2.2.2.1)&&decide (x.2.2.2.2.2.2.1<n))
  ·exact⟨false,rfl,fun h=>by cases h⟩
  ·simp at hb;exact⟨_,rfl,fun h=>by simp at h;exact⟨fun _=>⟨hb,h⟩,fun k=>by omega,fun k=>absurd h1 k⟩⟩
 ·simp only[h1,decide_false,cond_false];by_cases h2:x.1=21
  ·simp only[h2,decide_true,cond_true];by_cases h3:x.2.2.2.2.2.2.1= -1
   ·simp only[h3,decide_true,cond_true];exact⟨_,rfl,fun h=>by simp at h;exact⟨fun k=>absurd k h1,fun _=>⟨h3,h⟩,fun _ k=>absurd h2 k⟩⟩
   ·simp only[h3,decide_false,cond_false];exact⟨false,rfl,fun h=>by cases h⟩
  ·simp only[h2,decide_false,cond_false];cases hb:(decide (0<=x.2.2.2.2.2.2.1)&&decide (x.2.2.2.2.2.2.1<n))
   ·exact⟨false,rfl,fun h=>by cases h⟩
   ·simp at hb;exact⟨_,rfl,fun h=>by simp at h;exact⟨fun k=>absurd k h1,fun k=>absurd k h2,fun _ _=>⟨hb,h⟩⟩⟩
def se(a:Wa):List Int:=
 cond (decide (a.1=2)) [a.2.2.1] (cond (decide (a.1=3)) [a.2.2.1] (cond (decide (a.1=13)) [a.2.2.1] (cond (decide (a.1=4)) [a.2.2.1,a.2.2.2.1] (cond (decide (a.1=5)) [a.2.2.1,a.2.2.2.1] (cond (decide (a.1=6)) [a.2.2.1,a.2.2.2.1]
 (cond (decide (a.1=7)) [a.2.2.1,a.2.2.2.1] (cond (decide (a.1=8)) [a.2.2.1,a.2.2.2.1] (cond (decide (a.1=9)) [a.2.2.1,a.2.2.2.1] (cond (decide (a.1=10)) [a.2.2.1,a.2.2.2.1] (cond (decide (a.1=15)) [a.2.2.1,a.2.2.2.1] (cond (decide (a.1=11)) [a.2.2.2.1] (cond (decide (a.1=14)) [a.2.1,a.2.2.2.1] []))))))))))))
theorem SD{α:Type}{b:Bool}{x y:α}:cond b (some x) (some y)=some (cond b x y):=by cases b<;>rfl
theorem Gac(a:Wa):oF a=some (se a):=by
 unfold oF IP se;simp only[SD]
theorem V0{b:Bool}{l m:List Int}(h1:l.length<=2)(h2:m.length<=2):(cond b l m).length<=2:=by cases b<;>assumption
theorem I6(a:Wa):(se a).length<=2:=by
 unfold se
 repeat (first|exact(show(0:Nat)<=2 by decide)|exact(show(1:Nat)<=2 by decide)|exact(show(2:Nat)<=2 by decide)|refine V0 ?_ ?_)
def q_(g:Ga)(D:List Int)(i:Nat)(x:Int):Prop:=0<=x/\x<g.2.2.1/\(((Nf g).length:Int)<=x->gx D (x-((Nf g).length:Int)).toNat 0<(i:Int))
theorem M_{g:Ga}{D:List Int}(hD:cr g D)(hS:(Nf g).length<=64)(i:Nat)(x:Int)(a b c e f j)(y:Wa):∃r,Xx.m (D,(i:Int),x,a,b,c,e,f,j,(g,y))=some r/\(r=false->q_ g D i x):=by
 simp only[PD.m,Xx,nt];by_cases h1:x<0
 ·simp only[h1,decide_true,cond_true];exact⟨true,rfl,fun h=>by cases h⟩
 ·by_cases h2:g.2.2.1<=x
  ·simp only[h1,h2,decide_true,decide_false,cond_true,cond_false];exact⟨true,rfl,fun h=>by cases h⟩
  ·simp only[h1,h2,decide_false,cond_false];have hr:=hD.aD;have hl:=hD.len;by_cases h3:((Nf g).length:Int)<=x
   ·have h3':(da g.2.2.2.2.2.1:Int)<=x:=h3;simp only[h3',decide_true,cond_true];have w:Ea (x-(da g.2.2.2.2.2.1:Int))=x-((Nf g).length:Int):=Qb (by show _<=x-((Nf g).length:Int);omega) (by show x-((Nf g).length:Int)<=_;omega);simp only[w,wj (show 0<=x-((Nf g).length:Int)by omega) (show x-((Nf g).length:Int)<(D.length:Int)by omega),Oa];exact⟨_,rfl,fun h=>⟨by omega,by omega,fun _=>by simpa using h⟩⟩
   ·have h3':¬(da g.2.2.2.2.2.1:Int)<=x:=h3;simp only[h3',decide_false,cond_false];exact⟨false,rfl,fun _=>⟨by omega,by omega,fun h=>absurd h h3⟩⟩
theorem X_{g:Ga}{D:List Int}(hD:cr g D)(hS:(Nf g).length<=64)(i:Nat)(y:Wa)(l:List Int)(hl:l.length<=2)(a b c):
  ∃e,Ma (wq.m (D,(i:Int),a,b,c,l,nt l.length,g,y)) 0=some e/\((∃u,e= .inl u)\/(∃u,e= .inr u)/\∀x∈l,q_ g D i x):=by
 refine Vh (n:=l.length) (step:=wq.m (D,(i:Int),a,b,c,l,nt l.length,g,y)) (by omega) (fun k=>∀j,j<k->q_ g D i (gx l j 0)) (fun e=>(∃u,e= .inl u)\/(∃u,e= .inr u)/\∀x∈l,q_ g D i x) (fun j h=>absurd h (mj _)) (fun k hk hI=> ?_) (fun hI=> ?_)
 ·have h':(k:Int)<(l.length:Int):=by omega
  simp only[LD.m,wq,nt,h',decide_true,cond_true,fg hk,Oa,La];obtain⟨r,h1,h2⟩:=M_ hD hS i (gx l k 0) a b c l (nt l.length) (k:Int) y;simp only[nt]at h1;rw[h1];simp only[ga];cases r
  ·exact Yy fun j hj=>by
    by_cases e:j=k
    ·subst e;exact h2 rfl
    ·exact hI j (by omega)
  ·exact Aj (.inl ⟨(),rfl⟩)
 ·simp only[LD.m,wq,nt,Xb,decide_false,cond_false];exact⟨_,rfl,.inr ⟨⟨(),rfl⟩,fun x hx=>by
   obtain⟨j,hj⟩:=List.mem_iff_getElem?.1 hx;have Ac:j<l.length:=by rcases Vb j l.length with h|h;exact h;rw[Ab h]at hj;cases hj
   have:=hI j Ac;rw[QE hj]at this;exact this⟩⟩
end Go.U
end
section
set_option maxRecDepth 20000
namespace Go.U
open Go
def Fn(P:Prop)(x:Option Bool):Prop:=∃r,x=some r/\(r=false->P)
theorem Ah{P:Prop}{b:Bool}{x y:Option Bool}(hx:b=true->Fn P x)(hy:b=false->Fn P y):Fn P (cond b x y):=by
 cases b
 ·exact hy rfl
 ·exact hx rfl
theorem Gi{P:Prop}:Fn P (some true):=⟨true,rfl,fun h=>by cases h⟩
theorem aA{P:Prop}{b:Bool}(h:b=false->P):Fn P (some b):=⟨b,rfl,h⟩
theorem C5{α:Type}{P:Prop}{x:Option α}{f:α->Option Bool}(hx:∃r,x=some r)(hf:∀a,x=some a->Fn P (f a)):Fn P (x.bind f):=by
 obtain⟨a,h⟩:=hx;rw[h];exact hf a h
structure Idx(g:Ga)(y:Wa):Prop where
 k11:y.1=11\/y.1=14->0<=y.2.2.1/\y.2.2.1<((de g).length:Int)
 k12:y.1=12->0<=y.2.2.1/\y.2.2.1<((jU g).length:Int)
 k13:y.1=13->0<=y.2.1/\y.2.1<((Nf g).length:Int)
theorem V3(p):Wx.m p=some (decide (p.2.2.2.2.2.1=(11:Int))||decide (p.2.2.2.2.2.1=(14:Int))):=by
 simp only[PD.m,Wx];cases decide (p.2.2.2.2.2.1=(11:Int))<;>rfl
theorem L_(g:Ga)(y:Wa)(D l n t):Fn (Idx g y) (Vx.m (D,(decide (y.1=(11:Int))||decide (y.1=(14:Int))),l,n,t,g,y)):=by
 simp only[PD.m,Vx,nt]
 repeat' (first|exact Gi|(refine aA fun h=> ?_)|(refine Ah (fun h=> ?_) (fun h=> ?_)))
 all_goals
  rename_i h1;refine⟨fun k=> ?_,fun k=> ?_,fun k=> ?_⟩
 all_goals simp_all [de,jU,Nf]
 all_goals (first|omega|(have q:=of_decide_eq_false ‹decide (_<=_)=false›;omega))
structure Good(g:Ga)(D:List Int)(j:Nat):Prop where
 use:∀x∈se (at' g j),q_ g D j x
 idx:Idx g (at' g j)
 nxt:IN (at' g j) (g.1.length:Int)
 op:1<=(at' g j).1/\(at' g j).1<=21
 un:(at' g j).1=2\/(at' g j).1=3->(at' g j).2.2.2.1=0
 oE:(at' g j).1=15->14<=(at' g j).2.2.2.2.1/\(at' g j).2.2.2.2.1<=19
theorem x6{g:Ga}{D:List Int}(hD:cr g D)(hS:(Nf g).length<=64){i:Nat}{y:Wa}(hu:∀x∈se y,q_ g D i x)(hi:Idx g y)(hG:∀j,j<i->Good g D j):∃r,iF (g,D,y)=some r:=by
 unfold iF lP;simp only[nt];refine jd (zc _) (jd (zc _) (jd (zc _) (jd (zc _) (jd (zc _) (jd (zc _) (jd (zc _) (jd (zc _) ?_)))))));by_cases h14:y.1=14
 ·obtain⟨a,b⟩:=hi.k11 (.inr h14);have b':y.2.2.1<(da g.2.2.2.2.2.2.1:Int):=b;simp only[h14,decide_true,cond_true,wj a b',Oa];exact jd (zc _) (zc _)
 ·simp only[h14,decide_false,cond_false];refine jd (zc _) ?_;by_cases h13:y.1=13
  ·obtain⟨a,b⟩:=hi.k13 h13;have b':y.2.1<(da g.2.2.2.2.2.1:Int):=b;simp only[h13,decide_true,cond_true,wj a b',Oa];by_cases hs:(da g.2.2.2.2.2.1:Int)<=y.2.2.1
   ·simp only[hs,decide_true,cond_true];have V4:y.2.2.1∈se y:=by simp[se,h13]
    obtain⟨u1,u2,u3⟩:=hu _ V4;have hr:=hD.aD;have hl:=hD.len;have uU:((Nf g).length:Int)<=y.2.2.1:=hs;have u3:=u3 uU;obtain⟨k,hk⟩:=Pf (show 0<=y.2.2.1-((Nf g).length:Int)by omega);have w:Ea (y.2.2.1-(da g.2.2.2.2.2.1:Int))=(k:Int):=by
     show Ea (y.2.2.1-((Nf g).length:Int))=_;rw[hk,Qb (by omega) (by omega)]
    have l8:k<D.length:=by omega
    obtain⟨j,d1,d2,d3,d4⟩:=hD.dn k l8;rw[hk,La,QE d1]at u3;have hji:j<i:=by omega
    have gj:=hG j hji;simp only[w,fg l8,Oa,La,QE d1,fg d2];by_cases h12:(gx g.1 j Ta).1=12
    ·obtain⟨i1,i2⟩:=gj.idx.k12 h12;have i1:0<=(gx g.1 j Ta).2.2.1:=i1;have i2':(gx g.1 j Ta).2.2.1<(da g.2.2.2.2.1:Int):=i2;simp only[h12,decide_true,cond_true,wj i1 i2',Oa];refine zg (oH _) fun _ _=>jd (zg (nP _) fun _ _=>jd (zc _) (zc _)) (zc _)
    ·simp only[h12,decide_false,cond_false];exact zc _
   ·simp only[hs,decide_false,cond_false];exact zc _
  ·simp only[h13,decide_false,cond_false];exact zc _
theorem H6{g:Ga}{D:List Int}(hD:cr g D)(hS:(Nf g).length<=64){i:Nat}{y:Wa}(hu:∀x∈se y,q_ g D i x)(hi:Idx g y)(hG:∀j,j<i->Good g D j):∃r,mw (g,D,y)=some r:=by
 unfold mw HP;refine zg (x6 hD hS hu hi hG) fun r _=>jd (zc _) (jd ?_ (zc _))
 by_cases h1:(0:Int)<y.2.2.2.2.2.1
 ·simp only[h1,decide_true,cond_true,nt];by_cases h2:y.2.2.2.2.2.1<(da g.2.2.2.2.2.2.2:Int)
  ·simp only[h2,decide_true,cond_true,wj (Int.le_of_lt h1) h2,Oa];exact zc _
  ·simp only[h2,decide_false,cond_false];exact zc _
 ·simp only[h1,decide_false,cond_false];exact zc _
theorem K_{g:Ga}{D:List Int}(hD:cr g D)(hS:(Nf g).length<=64){i:Nat}{y:Wa}(hu:∀x∈se y,q_ g D i x)(hi:Idx g y)(hG:∀j,j<i->Good g D j)(a b c):Fn (y.1=15->14<=y.2.2.2.2.1/\y.2.2.2.2.1<=19) (Ux.m (D,a,b,c,g,y)):=by
 simp only[PD.m,Ux];have h42:=H6 hD hS hu hi hG
 repeat' (first|exact Gi|(refine Ah (fun h=> ?_) (fun h=> ?_))|(refine C5 h42 fun _ _=> ?_)|(refine aA fun h=> ?_))
 all_goals
  intro k;simp_all
theorem Good.nx{g:Ga}{D:List Int}{j:Nat}(h:Good g D j):(at' g j).2.2.2.2.2.2.1<(g.1.length:Int)/\(at' g j).2.2.2.2.2.2.2<(g.1.length:Int):=by
 obtain⟨h1,h2,h3⟩:=h.nxt;by_cases k1:(at' g j).1=15
 ·have:=h1 k1;omega
 ·by_cases k2:(at' g j).1=21
  ·have:=h2 k2;omega
  ·have:=h3 k1 k2;omega
theorem Mae(g:Ga)(y:Wa)(D a b c d):Fn (IN y (g.1.length:Int)/\(1<=y.1/\y.1<=21)/\(y.1=2\/y.1=3->y.2.2.2.1=0)) (cF.m (D,a,b,c,d,g,y)):=by
 simp only[PD.m,cF];obtain⟨r,h1,h2⟩:=Jac y (nt g.1.length) (by simp only[nt];omega);refine Ah (fun _=>Gi) fun c1=>Ah (fun _=>Gi) fun c2=>Ah (fun _=>Ah (fun _=>Gi) fun _=> ?_) fun _=> ?_
 all_goals
  have c1:=of_decide_eq_false c1;have c2:=of_decide_eq_false c2;obtain⟨u,u1,u2⟩:=Mac y;rw[u1,ga];refine Ah (fun _=>Gi) fun cu=> ?_
  rw[h1];exact aA fun h=>⟨h2 (by simpa using h),⟨by omega,by omega⟩,u2 (by simpa using cu)⟩
theorem Wae{g : Ga}{D : List Int}(hL : g.1.length ≤ 4096)(hD : cr g D)(hS : (Nf g).length ≤ 64) :
    ∃e, Ma (ez.m (D, g.1, nt g.1.length, g)) 0 = some e ∧ ((∃u, e = .inl u) ∨ (∃u, e = .inr u) ∧ ∀j, j < g.1.length → Good g D j) := by
  refine Vh (n := g.1.length) (step := ez.m (D, g.1, nt g.1.length, g)) (by omega) (fun k => ∀j, j < k → Good g D j) (fun e => (∃u, e = .inl u) ∨ (∃u, e = .inr u) ∧ ∀j, j < g.1.length → Good g D j) (fun j h => absurd h (mj _)) (fun k hk hI => ?_) (fun hI => ?_)
  · have h' : (k : Int) < (g.1.length : Int) := by omega
    obtain⟨y, hy⟩ : ∃y, gx g.1 k Ta = y := ⟨_, rfl⟩
    have Uk : at' g k = y := hy
    simp only[LD.m, ez, nt, h', decide_true, cond_true, fg hk, Oa, La, hy]
    obtain⟨r, q1, q2⟩ := Mae g y D (k : Int) g.1 (g.1.length : Int) (k : Int)
    rw[q1]
    simp only[ga]
    cases r
    · simp only[cond_false]
      rw[Gac]
      simp only[ga]
      obtain⟨e, l1, l2⟩ := X_ hD hS k y (se y) (I6 y) g.1 (g.1.length : Int) (k : Int)
      simp only[nt]at l1
      rw[l1]
      simp only[ga]
      rcases l2 with⟨u, rfl⟩ | ⟨⟨u, rfl⟩, hu⟩
      · exact Aj (.inl ⟨(), rfl⟩)
      · simp only[Sum.elim_inr]
        rw[V3]
        simp only[ga]
        obtain⟨r, w1, w2⟩ := L_ g y D g.1 (g.1.length : Int) (k : Int)
        rw[w1]
        simp only[ga]
        cases r
        · simp only[cond_false]
          have hi := w2 rfl
          obtain⟨b, v1, v2⟩ := K_ hD hS hu hi hI g.1 (g.1.length : Int) (k : Int)
          rw[v1]
          simp only[ga]
          cases b
          · exact Yy fun j hj => by
              by_cases e : j = k
              · subst e; exact⟨by rw[Uk]; exact hu, by rw[Uk]; exact hi, by rw[Uk]; exact(q2 rfl).1, by rw[Uk]; exact(q2 rfl).2.1, by rw[Uk]; exact(q2 rfl).2.2, by rw[Uk]; exact v2 rfl⟩
              · exact hI j (by omega)
          · exact Aj (.inl ⟨(), rfl⟩)
        · exact Aj (.inl ⟨(), rfl⟩)
    · exact Aj (.inl ⟨(), rfl⟩)
  · simp only[LD.m, ez, nt, Xb, decide_false, cond_false]
    exact⟨_, rfl, .inr ⟨⟨(), rfl⟩, hI⟩⟩
end Go.U
end
section
set_option maxRecDepth 20000
namespace Go.U
open Go
def BU(l:List Bool)(n:Int):Prop:=n<0\/gx l n.toNat false=true
theorem W_(g:Ga)(a b)(nx:Aa)(l:List Bool)(h1:nx.1<(l.length:Int))(h2:nx.2<(l.length:Int)):∃e,Ma (Fo.m (a,b,nx,g,l)) (true,0)=some e/\(e=true->BU l nx.1/\BU l nx.2):=by
 refine Tg (step:=Fo.m (a,b,nx,g,l)) (t:=(true,0)) (fun t=>t.2=0\/(t.2=1/\(t.1=true->BU l nx.1))\/(t.2=2/\(t.1=true->BU l nx.1/\BU l nx.2))) (fun t=>2-t.2.toNat) (fun e=>e=true->BU l nx.1/\BU l nx.2) (.inl rfl) (by simp) (fun t ht=> ?_);obtain⟨c,i⟩:=t;simp only at ht;simp only[LD.m,Fo];have w0:Ea ((0:Int)+1)=1:=by decide
 have w1:Ea ((1:Int)+1)=2:=by decide
 rcases ht with rfl|⟨rfl,q⟩|⟨rfl,q⟩
 ·have d1:(0:Int)<2:=by decide
  simp only[d1,decide_true,cond_true,w0];refine .inl ?_;cases c
  ·exact⟨_,rfl,.inr (.inl ⟨rfl,fun h=>by cases h⟩),by simp⟩
  ·simp only[cond_true];by_cases hn:nx.1<0
   ·simp only[hn,decide_true,cond_true];exact⟨_,rfl,.inr (.inl ⟨rfl,fun _=> .inl hn⟩),by simp⟩
   ·simp only[hn,decide_false,cond_false,wj (show 0<=nx.1 by omega) h1,Oa];exact⟨_,rfl,.inr (.inl ⟨rfl,fun h=> .inr h⟩),by simp⟩
 ·have d1:(1:Int)<2:=by decide
  have d2:¬(1:Int)=0:=by decide
  simp only[d1,d2,decide_true,decide_false,cond_true,cond_false,w1];refine .inl ?_;cases c
  ·exact⟨_,rfl,.inr (.inr ⟨rfl,fun h=>by cases h⟩),by simp⟩
  ·simp only[cond_true];by_cases hn:nx.2<0
   ·simp only[hn,decide_true,cond_true];exact⟨_,rfl,.inr (.inr ⟨rfl,fun _=>⟨q rfl,.inl hn⟩⟩),by simp⟩
   ·simp only[hn,decide_false,cond_false,wj (show 0<=nx.2 by omega) h2,Oa];exact⟨_,rfl,.inr (.inr ⟨rfl,fun h=>⟨q rfl,.inr h⟩⟩),by simp⟩
 ·have d1:¬(2:Int)<2:=by decide
  simp only[d1,decide_false,cond_false];exact .inr ⟨_,rfl,q⟩
def cf(l:List Bool):Nat:=oe (fun b=> !b) l
theorem Ead{l:List Bool}{i:Nat}(hi:i<l.length)(h:gx l i false=false):cf (l.set i true)<cf l:=by
 unfold cf;rw[List.countP_set hi];have e:l[i]=false:=by
  have:=gp (d:=false) hi;rw[h,Ba hi]at this;exact Ek this
 have:0<oe (fun b=> !b) l:=List.countP_pos_iff.2 ⟨false,by rw[<- e];exact List.getElem_mem hi,rfl⟩;simp[e];omega
def IC(g:Ga)(l:List Bool):Prop:=∃rk:Nat->Nat,∀j,gx l j false=true->rk j+cf l<l.length/\((at' g j).1=17\/(at' g j).1=20\/∀n,(n=(at' g j).2.2.2.2.2.2.1\/n=(at' g j).2.2.2.2.2.2.2)->n<0\/(gx l n.toNat false=true/\rk n.toNat<rk j))
theorem ou{α:Type}{l:List α}{i j:Nat}{d x:α}(hi:i<l.length):gx (l.set i x) j d=if i=j then x else gx l j d:=by
 simp only[gx,Ia,Ob];split
 ·simp[hi]
 ·rfl
theorem W6{l:List Bool}{i:Nat}(hi:i<l.length)(h:gx l i false=false):cf (l.set i true)+1=cf l:=by
 unfold cf;rw[List.countP_set hi];have e:l[i]=false:=by
  have:=gp (d:=false) hi;rw[h,Ba hi]at this;exact Ek this
 have:0<oe (fun b=> !b) l:=List.countP_pos_iff.2 ⟨false,by rw[<- e];exact List.getElem_mem hi,rfl⟩;simp[e];omega
theorem oW{g:Ga}{l:List Bool}{i:Nat}(hi:i<l.length)(h:gx l i false=false)(hG:IC g l)(hx:(at' g i).1=17\/(at' g i).1=20\/(BU l (at' g i).2.2.2.2.2.2.1/\BU l (at' g i).2.2.2.2.2.2.2)):IC g (l.set i true):=by
 obtain⟨rk,hr⟩:=hG;have hc:=W6 hi h;have OR:cf l<=l.length:=List.countP_le_length;have Bk:∀{n:Int},gx l n.toNat false=true->gx (l.set i true) n.toNat false=true/\(if n.toNat=i then l.length-cf l else rk n.toNat)=rk n.toNat/\rk n.toNat<l.length-cf l:=fun{n}hn=>by
  have Uc:n.toNat≠i:=fun e=>by rw[e,h]at hn;cases hn
  rw[ou hi,if_neg (fun e=>Uc e.symm),if_neg Uc];have:=(hr _ hn).1;exact⟨hn,rfl,by omega⟩
 refine⟨fun k=>if k=i then l.length-cf l else rk k,fun j hj=> ?_⟩;simp only[qe];by_cases e:j=i
 ·subst e;rw[if_pos rfl];refine⟨by omega,?_⟩;rcases hx with h1|h1|⟨h1,h2⟩
  ·exact .inl h1
  ·exact .inr (.inl h1)
  ·refine .inr (.inr fun n hn=> ?_);have ho:BU l n:=by rcases hn with rfl|rfl<;>assumption
   rcases ho with ho|ho
   ·exact .inl ho
   ·obtain⟨q1,q2,q3⟩:=Bk ho;exact .inr ⟨q1,by rw[q2];exact q3⟩
 ·rw[ou hi,if_neg (fun e'=>e e'.symm)]at hj;obtain⟨p1,p2⟩:=hr j hj;rw[if_neg e];refine⟨by omega,p2.imp_right fun p2=>p2.imp_right fun p2 n hn=> ?_⟩;rcases p2 n hn with ho|⟨ho,hl⟩
  ·exact .inl ho
  ·obtain⟨q1,q2,q3⟩:=Bk ho;exact .inr ⟨q1,by rw[q2];exact hl⟩
theorem Xae(g:Ga)(hN:g.1.length<=4096)(hx:∀j,j<g.1.length->(at' g j).2.2.2.2.2.2.1<(g.1.length:Int)/\(at' g j).2.2.2.2.2.2.2<(g.1.length:Int))(l0:List Bool)(mJ:l0.length=g.1.length)(hG0:IC g l0):
  ∃e,Ma (Cq.m g) (false,(Ea ((nt (da g.1))-(1:Int))),l0)=some e/\e.2.length=g.1.length/\IC g e.2/\cf e.2<=cf l0/\(e.1=true->cf e.2<cf l0):=by
 rw[Qb (by simp only[nt];omega) (by simp only[nt];omega)];refine Tg (step:=Cq.m g) (fun t=>(∃n:Nat,n<=g.1.length/\t.2.1=(n:Int)-1)/\t.2.2.length=g.1.length/\IC g t.2.2/\cf t.2.2<=cf l0/\(t.1=true->cf t.2.2<cf l0)) (fun t=>(t.2.1+1).toNat) (fun e=>e.2.length=g.1.length/\IC g e.2/\cf e.2<=cf l0/\(e.1=true->cf e.2<cf l0))
  ⟨⟨g.1.length,va _,rfl⟩,mJ,hG0,va _,fun h=>by cases h⟩ (by simp only[nt];omega) (fun t⟨⟨n,hn,ht⟩,hl,hG,hc,hs⟩=> ?_)
 obtain⟨c,i,l⟩:=t;simp only at ht hl hG hc hs;subst ht;simp only[LD.m,Cq];cases n with
 |zero=>
  have d:¬(0:Int)<=((0:Nat):Int)-1:=by decide
  simp only[d,decide_false,cond_false];exact .inr ⟨_,rfl,hl,hG,hc,hs⟩
 |succ n=>
  have d:(0:Int)<=((n+1:Nat):Int)-1:=by omega
  have e:((n+1:Nat):Int)-1=(n:Int):=by omega
  have Lj:n<l.length:=by omega
  have hng:n<g.1.length:=by omega
  have w:Ea ((n:Int)-1)=(n:Int)-1:=Qb (by omega) (by omega);simp only[d,decide_true,cond_true];rw[e];simp only[fg Lj,fg hng,Oa,La,w];refine .inl ?_;cases hg:gx l n false
  ·have hm:=Ead Lj hg;have mark:((at' g n).1=17\/(at' g n).1=20\/(BU l (at' g n).2.2.2.2.2.2.1/\BU l (at' g n).2.2.2.2.2.2.2))->∃t',some (Sum.inl (true,((n:Int)-1,l.set n true)))=some (Sum.inl t':(Bool×Int×List Bool) ⊕ (Bool×List Bool))/\((∃m:Nat,m<=g.1.length/\t'.2.1=(m:Int)-1)/\t'.2.2.length=g.1.length/\IC g t'.2.2/\cf t'.2.2<=cf l0/\(t'.1=true->cf t'.2.2<cf l0))/\(t'.2.1+1).toNat<((n:Int)+1).toNat:=fun ho=>
    ⟨_,rfl,⟨⟨n,by omega,rfl⟩,by simpa using hl,oW Lj hg hG ho,by simp only;omega,fun _=>by simp only;omega⟩,by simp only;omega⟩
   have stay:∃t',some (Sum.inl (c,((n:Int)-1,l)))=some (Sum.inl t':(Bool×Int×List Bool) ⊕ (Bool×List Bool))/\((∃m:Nat,m<=g.1.length/\t'.2.1=(m:Int)-1)/\t'.2.2.length=g.1.length/\IC g t'.2.2/\cf t'.2.2<=cf l0/\(t'.1=true->cf t'.2.2<cf l0))/\(t'.2.1+1).toNat<((n:Int)+1).toNat:=
    ⟨_,rfl,⟨⟨n,by omega,rfl⟩,hl,hG,hc,hs⟩,by simp only;omega⟩
   simp only[cond_false];cases h17:(decide ((gx g.1 n Ta).1=(17:Int)))
   ·simp only[gf,cond_true];cases h20:(decide ((gx g.1 n Ta).1=(20:Int)))
    ·simp only[gf,cond_true];obtain⟨x1,x2⟩:=hx n hng;obtain⟨r,hr,zB⟩:=W_ g c (n:Int) (gx g.1 n Ta).2.2.2.2.2.2 l (by rw[hl];exact x1) (by rw[hl];exact x2);rw[hr];simp only[ga];cases r
     ·exact stay
     ·exact mark (.inr (.inr (zB rfl)))
    ·exact mark (.inr (.inl (of_decide_eq_true h20)))
   ·exact mark (.inl (of_decide_eq_true h17))
  ·simp only[cond_true];exact⟨_,rfl,⟨⟨n,by omega,rfl⟩,hl,hG,hc,hs⟩,by simp only;omega⟩
theorem eaj{n:Nat}(h:n<=4096):(decide (0<=(n:Int))&&decide ((n:Int)<=(n:Int))&&decide (1 * (n:Int)<=70368744177664)&&decide ((n:Int)<9223372036854775808))=true:=by
 have h1:(0:Int)<=n:=by omega
 have h2:1 * (n:Int)<=70368744177664:=by omega
 have h3:(n:Int)<9223372036854775808:=by omega
 rw[decide_eq_true h1,decide_eq_true (qh _),decide_eq_true h2,decide_eq_true h3];rfl
def Cu(g:Ga)(rk:Nat->Nat):Prop:=∀j,j<g.1.length->rk j<g.1.length/\((at' g j).1=17\/(at' g j).1=20\/∀n,(n=(at' g j).2.2.2.2.2.2.1\/n=(at' g j).2.2.2.2.2.2.2)->n<0\/rk n.toNat<rk j)
theorem Bac(g:Ga)(hN:g.1.length<=4096)(hx:∀j,j<g.1.length->(at' g j).2.2.2.2.2.2.1<(g.1.length:Int)/\(at' g j).2.2.2.2.2.2.2<(g.1.length:Int)):∃r,nF g=some r/\(r=true->∃rk,Cu g rk):=by
 unfold nF GP;have b1:(decide (0<=(nt (da g.1)))&&decide ((nt (da g.1))<=(nt (da g.1)))&&decide (1 * (nt (da g.1))<=70368744177664)&&decide ((nt (da g.1))<9223372036854775808))=true:=eaj hN;rw[b1,Oa];have hG0:IC g (Ca (fa (nt (da g.1))) false):=⟨fun _=>0,fun j hj=>by
  simp only[gx,Ia,ji]at hj;split at hj<;>simp at hj⟩
 obtain⟨e,h1,h2,h2g⟩:=Tg (step:=Zx.m g) (t:=(true,Ca (fa (nt (da g.1))) false)) (fun t=>t.2.length=g.1.length/\IC g t.2) (fun t=>2 * cf t.2+cond t.1 1 0) (fun e=>e.length=g.1.length/\IC g e) ⟨by simp[nt],hG0⟩ (by
   have:cf (Ca (fa (nt (da g.1))) false)<=4096:=Ib List.countP_le_length (by simp[nt];exact hN);simp only[cond_true];omega) (fun t⟨ht,htG⟩=>by
  obtain⟨c,l⟩:=t;simp only at ht htG;simp only[LD.m,Zx];cases c
  ·exact .inr ⟨_,rfl,ht,htG⟩
  ·obtain⟨e,q1,q2,q2g,q3,q4⟩:=Xae g hN hx l ht htG;have q1':Ma (LD.m Cq g) (false,(Ea ((nt (da g.1))-(1:Int))),l)=some e:=q1;simp only[cond_true];refine .inl ⟨(e.1,e.2),?_,⟨q2,q2g⟩,?_⟩
   ·rw[q1'];rfl
   ·cases hb:e.1
    ·simp only[cond_false,cond_true];omega
    ·simp only[cond_true];have:=q4 hb;omega)
 rw[h1];simp only[ga];obtain⟨e2,h3,h4⟩:=Vh (n:=e.length) (step:=Eo.m ((nt (da e)),e)) (by omega) (fun k=>∀i,i<k->gx e i false=true) (fun q=>(∃u,q= .inl u)\/(∃u,q= .inr u)/\∀i,i<e.length->gx e i false=true) (fun i h=>absurd h (mj _)) (fun i hi hI=>by
  have h':(i:Int)<(e.length:Int):=by omega
  simp only[LD.m,Eo,nt,h',decide_true,cond_true,fg hi,Oa,La];refine zh (fun _=>Aj (.inl ⟨(),rfl⟩)) (fun c=>Yy fun j hj=> ?_);by_cases ej:j=i
  ·subst ej;simpa using c
  ·exact hI j (by omega)) (fun hI=>by
  simp only[LD.m,Eo,nt,Xb,decide_false,cond_false];exact⟨_,rfl,.inr ⟨⟨(),rfl⟩,hI⟩⟩)
 rw[h3];simp only[ga];rcases h4 with⟨u,rfl⟩|⟨⟨u,rfl⟩,Hg⟩
 ·exact⟨false,rfl,fun h=>by cases h⟩
 ·refine⟨true,rfl,fun _=> ?_⟩;obtain⟨rk,hr⟩:=h2g;refine⟨rk,fun j hj=> ?_⟩;obtain⟨p1,p2⟩:=hr j (Hg j (by omega));exact⟨by omega,p2.imp_right fun p2=>p2.imp_right fun p2 n hn=>(p2 n hn).imp_right And.right⟩
structure Mf(g:Ga)(D:List Int):Prop where
 N1:0<g.1.length
 N:g.1.length<=4096
 S:(Nf g).length<=64
 A:(de g).length<=16
 I:xQ g
 defs:cr g D
 oD:∀j,j<g.1.length->Good g D j
 Tai:∃rk,Cu g rk
theorem Kag{g:Ga}(h:x7 g):∃r,dS g=some r/\(r=true->∃D,Mf g D):=by
 unfold dS Q5;have no:∃r,some false=some r/\(r=true->∃D,Mf g D):=⟨false,rfl,fun h=>by cases h⟩;obtain⟨b,hb,uJ⟩:Fn ((0<g.1.length/\g.1.length<=4096)/\(Nf g).length<=64/\(de g).length<=16/\xQ g) (dF.m g):=by
  simp only[PD.m,dF,nt];refine Ah (fun _=>Gi) fun k1=>Ah (fun _=>Gi) fun k2=>Ah (fun _=>Gi) fun k3=>Ah (fun _=>Gi) fun k4=> ?_
  have k3:=of_decide_eq_false k3;have k4:=of_decide_eq_false k4;have k2:=of_decide_eq_false k2;have k1:=of_decide_eq_false k1;rw[wj (by omega) (by omega),Oa];refine Ah (fun _=>Gi) fun _=> ?_
  obtain⟨r,q1,q2⟩:=Sac h;rw[q1];exact aA fun hr=>⟨⟨by omega,by omega⟩,q2 (by simpa using hr)⟩
 rw[hb];simp only[ga];cases b
 ·obtain⟨⟨hN1,hN⟩,hS,hA,hI⟩:=uJ rfl;simp only[cond_false];obtain⟨r,d1,d2⟩:=Pac g hN hS h.A;rw[d1];simp only[ga];cases hr:r.2
  ·exact no
  ·have hD:=d2 hr;simp only[Zf,cond_false];obtain⟨e,l1,l2⟩:=Wae hN hD hS;rw[l1];simp only[ga];rcases l2 with⟨u,rfl⟩|⟨⟨u,rfl⟩,hG⟩
   ·exact no
   ·simp only[Sum.elim_inr];obtain⟨r,hr,hk⟩:=Bac g hN fun j hj=>(hG j hj).nx
    rw[hr];exact⟨r,rfl,fun h=>⟨_,hN1,hN,hS,hA,hI,hD,hG,hk h⟩⟩
 ·exact no
end Go.U
end
