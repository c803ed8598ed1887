/- What these Lean functions compute: plain arithmetic of congruences, the checks of a graph, the values of its registers. -/
import Derived.Test.YtjenflkegbmkkaaGreatDoorD2
set_option linter.unusedVariables false
set_option linter.unusedSimpArgs false
set_option linter.unusedSectionVars false
open Bool renaming not_true→Xl,not_false→Ve
open Int renaming toNat_natCast→Ca,lt_irrefl→Mb,eq_ofNat_of_zero_le→Yr,le_refl→bh,toNat→ga
open List renaming length→fa,mem_iff_getElem?→GB,getElem?_eq_none→mb,countP→Zd,getElem?_eq_getElem→ya,getD_eq_getElem?_getD→Ea,getElem?_set→Kb,length_set→fe,replicate→Ja,getElem?_replicate→Ei
open Nat renaming not_lt_zero→Xi,lt_or_ge→Rb,le_refl→oa,le_trans→Ib
open Option renaming bind_some→da
open Option.some renaming inj→nk
open Sum renaming elim_inr→qt
section
set_option maxRecDepth 20000
namespace Go.U
open Go
theorem IQ (p):∃ r,Cw.m p=some r:=by
 simp only [PD.m,Cw]
 repeat (first|exact jc _|(refine Vc ?_ ?_))
theorem zD (p):∃ r,Jp.m p=some r:=by
 simp only [PD.m,Jp]
 repeat (first|exact jc _|(refine Vc ?_ ?_))
theorem zw (p):∃ r,Bw.m p=some r:=by
 simp only [PD.m,Bw]
 repeat (first|exact jc _|(refine Vc ?_ ?_))
theorem yw (p):∃ r,Aw.m p=some r:=by
 simp only [PD.m,Aw]
 repeat (first|exact jc _|(refine Vc ?_ ?_))
theorem yD (p):∃ r,Ip.m p=some r:=by
 simp only [PD.m,Ip]
 repeat (first|exact jc _|(refine Vc ?_ ?_))
theorem naa (a:Fb):Tp (a.1=2\/a.1=3->a.2.2.2.1=0) (KA a):=by
 unfold KA SN;obtain ⟨e1,h1⟩:=IQ a;rw [h1,da];by_cases hB:a.2.2.2.1=0
 · obtain ⟨r,h⟩:=ig (zD (e1,a)) fun e2 _=>ig (zw (e1,e2,a)) fun e3 _=>ig (yw (e1,e2,e3,a)) fun e4 _=>ig (yD (e1,e2,e3,e4,a)) fun e5 _=>jc e5
   exact ⟨r,h,fun _ _=>hB⟩
 · by_cases qA:a.1=2\/a.1=3
   · have h2:Jp.m (e1,a)=some true:=by
      simp only [PD.m,Jp];rcases qA with qA|qA<;>simp only [qA,decide_true,cond_true]<;>cases e1<;>rfl
     rw [h2,da];obtain ⟨e3,h3⟩:=zw (e1,true,a);rw [h3,da];obtain ⟨e4,h4⟩:=yw (e1,true,e3,a);rw [h4,da];have h5:Tp (a.1=2\/a.1=3->a.2.2.2.1=0) (Ip.m (e1,true,e3,e4,a)):=by
      simp only [PD.m,Ip,Xl,cond_false,hB,decide_false]
      repeat (first|exact Uh|refine Ey ?_ ?_)
     obtain ⟨r,q1,q2⟩:=h5;rw [q1];exact ⟨r,rfl,q2⟩
   · obtain ⟨r,h⟩:=ig (zD (e1,a)) fun e2 _=>ig (zw (e1,e2,a)) fun e3 _=>ig (yw (e1,e2,e3,a)) fun e4 _=>ig (yD (e1,e2,e3,e4,a)) fun e5 _=>jc e5
     exact ⟨r,h,fun _ k=>absurd k qA⟩
theorem H_ (a b:Int):Jx (a,b)=some (decide (0<=a)&&decide (a<b)):=by
 unfold Jx zN;simp only;by_cases h:0<=a<;>simp [h]
def iM (x:Fb) (n:Int):Prop:=(x.1=15->(0<=x.2.2.2.2.2.2.1/\x.2.2.2.2.2.2.1<n)/\0<=x.2.2.2.2.2.2.2/\x.2.2.2.2.2.2.2<n)/\(x.1=21->x.2.2.2.2.2.2.1= -1/\x.2.2.2.2.2.2.2= -1)/\(x.1≠15->x.1≠21->(0<=x.2.2.2.2.2.2.1/\x.2.2.2.2.2.2.1<n)/\x.2.2.2.2.2.2.2= -1)
theorem kaa (x:Fb) (n:Int) (hn:0<=n):∃ r,JA (x,n)=some r/\(r=true->iM x n):=by
 unfold JA RN;simp only [H_,da];by_cases h1:x.1=15
 · simp only [h1,decide_true,cond_true];cases hb:(decide (0<=x.2.2.2.2.2.2.1)&&decide (x.2.2.2.2.2.2.1<n))
   · exact ⟨false,rfl,fun h=>by cases h⟩
   · simp at hb;exact ⟨_,rfl,fun h=>by simp at h;exact ⟨fun _=>⟨hb,h⟩,fun k=>by omega,fun k=>absurd h1 k⟩⟩
 · simp only [h1,decide_false,cond_false];by_cases h2:x.1=21
   · simp only [h2,decide_true,cond_true];by_cases h3:x.2.2.2.2.2.2.1= -1
     · simp only [h3,decide_true,cond_true];exact ⟨_,rfl,fun h=>by simp at h;exact ⟨fun k=>absurd k h1,fun _=>⟨h3,h⟩,fun _ k=>absurd h2 k⟩⟩
     · simp only [h3,decide_false,cond_false];exact ⟨false,rfl,fun h=>by cases h⟩
   · simp only [h2,decide_false,cond_false];cases hb:(decide (0<=x.2.2.2.2.2.2.1)&&decide (x.2.2.2.2.2.2.1<n))
     · exact ⟨false,rfl,fun h=>by cases h⟩
     · simp at hb;exact ⟨_,rfl,fun h=>by simp at h;exact ⟨fun k=>absurd k h1,fun k=>absurd k h2,fun _ _=>⟨hb,h⟩⟩⟩
def Mf (a:Fb):List Int:=
 cond (decide (a.1=2)) [a.2.2.1] (cond (decide (a.1=3)) [a.2.2.1] (cond (decide (a.1=13)) [a.2.2.1] (cond (decide (a.1=4)) [a.2.2.1,a.2.2.2.1] (cond (decide (a.1=5)) [a.2.2.1,a.2.2.2.1] (cond (decide (a.1=6)) [a.2.2.1,a.2.2.2.1]
 (cond (decide (a.1=7)) [a.2.2.1,a.2.2.2.1] (cond (decide (a.1=8)) [a.2.2.1,a.2.2.2.1] (cond (decide (a.1=9)) [a.2.2.1,a.2.2.2.1] (cond (decide (a.1=10)) [a.2.2.1,a.2.2.2.1] (cond (decide (a.1=15)) [a.2.2.1,a.2.2.2.1] (cond (decide (a.1=11)) [a.2.2.2.1] (cond (decide (a.1=14)) [a.2.1,a.2.2.2.1] []))))))))))))
theorem eC {α:Type} {b:Bool} {x y:α}:cond b (some x) (some y)=some (cond b x y):=by cases b<;>rfl
theorem haa (a:Fb):xD a=some (Mf a):=by
 unfold xD QN Mf;simp only [eC]
theorem HY {b:Bool} {l m:List Int} (h1:l.length<=2) (h2:m.length<=2):(cond b l m).length<=2:=by cases b<;>assumption
theorem K3 (a:Fb):(Mf a).length<=2:=by
 unfold Mf
 repeat (first|exact (show (0:Nat)<=2 by decide)|exact (show (1:Nat)<=2 by decide)|exact (show (2:Nat)<=2 by decide)|refine HY ?_ ?_)
def O7 (g:Ba) (D:List Int) (i:Nat) (x:Int):Prop:=0<=x/\x<g.2.2.1/\(((yg g).length:Int)<=x->gx D (x-((yg g).length:Int)).toNat 0<(i:Int))
theorem v8 {g:Ba} {D:List Int} (hD:jq g D) (hS:(yg g).length<=64) (i:Nat) (x:Int) (a b c e f j) (y:Fb):∃ r,uw.m (D,(i:Int),x,a,b,c,e,f,j,(g,y))=some r/\(r=false->O7 g D i x):=by
 simp only [PD.m,uw,nt];by_cases h1:x<0
 · simp only [h1,decide_true,cond_true];exact ⟨true,rfl,fun h=>by cases h⟩
 · by_cases h2:g.2.2.1<=x
   · simp only [h1,h2,decide_true,decide_false,cond_true,cond_false];exact ⟨true,rfl,fun h=>by cases h⟩
   · simp only [h1,h2,decide_false,cond_false];have hr:=hD.uE;have hl:=hD.len;by_cases h3:((yg g).length:Int)<=x
     · have h3':(fa g.2.2.2.2.2.1:Int)<=x:=h3;simp only [h3',decide_true,cond_true];have w:Ga (x-(fa g.2.2.2.2.2.1:Int))=x-((yg g).length:Int):=Sb (by show _<=x-((yg g).length:Int);omega) (by show x-((yg g).length:Int)<=_;omega);simp only [w,Am (show 0<=x-((yg g).length:Int) by omega) (show x-((yg g).length:Int)<(D.length:Int) by omega),Xa];exact ⟨_,rfl,fun h=>⟨by omega,by omega,fun _=>by simpa using h⟩⟩
     · have h3':¬ (fa g.2.2.2.2.2.1:Int)<=x:=h3;simp only [h3',decide_false,cond_false];exact ⟨false,rfl,fun _=>⟨by omega,by omega,fun h=>absurd h h3⟩⟩
theorem I8 {g:Ba} {D:List Int} (hD:jq g D) (hS:(yg g).length<=64) (i:Nat) (y:Fb) (l:List Int) (hl:l.length<=2) (a b c):
   ∃ e,Oa (yp.m (D,(i:Int),a,b,c,l,nt l.length,g,y)) 0=some e/\((∃ u,e= .inl u)\/(∃ u,e= .inr u)/\∀ x∈l,O7 g D i x):=by
 refine Nh (n:=l.length) (step:=yp.m (D,(i:Int),a,b,c,l,nt l.length,g,y)) (by omega) (fun k=>∀ j,j<k->O7 g D i (gx l j 0)) (fun e=>(∃ u,e= .inl u)\/(∃ u,e= .inr u)/\∀ x∈l,O7 g D i x) (fun j h=>absurd h (Xi _)) (fun k hk hI=> ?_) (fun hI=> ?_)
 · have h':(k:Int)<(l.length:Int):=by omega
   simp only [LD.m,yp,nt,h',decide_true,cond_true,Rh hk,Xa,Ca];obtain ⟨r,h1,h2⟩:=v8 hD hS i (gx l k 0) a b c l (nt l.length) (k:Int) y;simp only [nt] at h1;rw [h1];simp only [da];cases r
   · exact zx fun j hj=>by
      by_cases e:j=k
      · subst e;exact h2 rfl
      · exact hI j (by omega)
   · exact lj (.inl ⟨(),rfl⟩)
 · simp only [LD.m,yp,nt,Mb,decide_false,cond_false];exact ⟨_,rfl,.inr ⟨⟨(),rfl⟩,fun x hx=>by
     obtain ⟨j,hj⟩:=GB.1 hx;have nc:j<l.length:=by rcases Rb j l.length with h|h;exact h;rw [mb h] at hj;cases hj
     have:=hI j nc;rw [lp hj] at this;exact this⟩⟩
end Go.U
end
section
set_option maxRecDepth 20000
namespace Go.U
open Go
def Fn (P:Prop) (x:Option Bool):Prop:=∃ r,x=some r/\(r=false->P)
theorem rh {P:Prop} {b:Bool} {x y:Option Bool} (hx:b=true->Fn P x) (hy:b=false->Fn P y):Fn P (cond b x y):=by
 cases b
 · exact hy rfl
 · exact hx rfl
theorem ji {P:Prop}:Fn P (some true):=⟨true,rfl,fun h=>by cases h⟩
theorem My {P:Prop} {b:Bool} (h:b=false->P):Fn P (some b):=⟨b,rfl,h⟩
theorem L1 {α:Type} {P:Prop} {x:Option α} {f:α->Option Bool} (hx:∃ r,x=some r) (hf:∀ a,x=some a->Fn P (f a)):Fn P (x.bind f):=by
 obtain ⟨a,h⟩:=hx;rw [h];exact hf a h
structure Idx (g:Ba) (y:Fb):Prop where
 k11:y.1=11\/y.1=14->0<=y.2.2.1/\y.2.2.1<((Xe g).length:Int)
 k12:y.1=12->0<=y.2.2.1/\y.2.2.1<((QY g).length:Int)
 k13:y.1=13->0<=y.2.1/\y.2.1<((yg g).length:Int)
theorem PZ (p):tw.m p=some (decide (p.2.2.2.2.2.1=(11:Int))||decide (p.2.2.2.2.2.1=(14:Int))):=by
 simp only [PD.m,tw];cases decide (p.2.2.2.2.2.1=(11:Int))<;>rfl
theorem s8 (g:Ba) (y:Fb) (D l n t):Fn (Idx g y) (sw.m (D,(decide (y.1=(11:Int))||decide (y.1=(14:Int))),l,n,t,g,y)):=by
 simp only [PD.m,sw,nt]
 repeat' (first|exact ji|(refine My fun h=> ?_)|(refine rh (fun h=> ?_) (fun h=> ?_)))
 all_goals
  rename_i h1;refine ⟨fun k=> ?_,fun k=> ?_,fun k=> ?_⟩
 all_goals simp_all [Xe,QY,yg]
 all_goals (first|omega|(have q:=of_decide_eq_false ‹decide (_<=_)=false›;omega))
structure Good (g:Ba) (D:List Int) (j:Nat):Prop where
 use:∀ x∈Mf (at' g j),O7 g D j x
 idx:Idx g (at' g j)
 Pt:iM (at' g j) (g.1.length:Int)
 op:1<=(at' g j).1/\(at' g j).1<=21
 un:(at' g j).1=2\/(at' g j).1=3->(at' g j).2.2.2.1=0
 wS:(at' g j).1=15->14<=(at' g j).2.2.2.2.1/\(at' g j).2.2.2.2.1<=19
theorem D3 {g:Ba} {D:List Int} (hD:jq g D) (hS:(yg g).length<=64) {i:Nat} {y:Fb} (hu:∀ x∈Mf y,O7 g D i x) (hi:Idx g y) (hG:∀ j,j<i->Good g D j):∃ r,rD (g,D,y)=some r:=by
 unfold rD yN;simp only [nt];refine Vc (jc _) (Vc (jc _) (Vc (jc _) (Vc (jc _) (Vc (jc _) (Vc (jc _) (Vc (jc _) (Vc (jc _) ?_)))))));by_cases h14:y.1=14
 · obtain ⟨a,b⟩:=hi.k11 (.inr h14);have b':y.2.2.1<(fa g.2.2.2.2.2.2.1:Int):=b;simp only [h14,decide_true,cond_true,Am a b',Xa];exact Vc (jc _) (jc _)
 · simp only [h14,decide_false,cond_false];refine Vc (jc _) ?_;by_cases h13:y.1=13
   · obtain ⟨a,b⟩:=hi.k13 h13;have b':y.2.1<(fa g.2.2.2.2.2.1:Int):=b;simp only [h13,decide_true,cond_true,Am a b',Xa];by_cases hs:(fa g.2.2.2.2.2.1:Int)<=y.2.2.1
     · simp only [hs,decide_true,cond_true];have R0:y.2.2.1∈Mf y:=by simp [Mf,h13]
       obtain ⟨u1,u2,u3⟩:=hu _ R0;have hr:=hD.uE;have hl:=hD.len;have bS:((yg g).length:Int)<=y.2.2.1:=hs;have u3:=u3 bS;obtain ⟨k,hk⟩:=Yr (show 0<=y.2.2.1-((yg g).length:Int) by omega);have w:Ga (y.2.2.1-(fa g.2.2.2.2.2.1:Int))=(k:Int):=by
         show Ga (y.2.2.1-((yg g).length:Int))=_;rw [hk,Sb (by omega) (by omega)]
       have F5:k<D.length:=by omega
       obtain ⟨j,d1,d2,d3,d4⟩:=hD.dn k F5;rw [hk,Ca,lp d1] at u3;have hji:j<i:=by omega
       have gj:=hG j hji;simp only [w,Rh F5,Xa,Ca,lp d1,Rh d2];by_cases h12:(gx g.1 j Ta).1=12
       · obtain ⟨i1,i2⟩:=gj.idx.k12 h12;have i1:0<=(gx g.1 j Ta).2.2.1:=i1;have P8:(gx g.1 j Ta).2.2.1<(fa g.2.2.2.2.1:Int):=i2;simp only [h12,decide_true,cond_true,Am i1 P8,Xa];refine ig (LF _) fun _ _=>Vc (ig (AN _) fun _ _=>Vc (jc _) (jc _)) (jc _)
       · simp only [h12,decide_false,cond_false];exact jc _
     · simp only [hs,decide_false,cond_false];exact jc _
   · simp only [h13,decide_false,cond_false];exact jc _
theorem J3 {g:Ba} {D:List Int} (hD:jq g D) (hS:(yg g).length<=64) {i:Nat} {y:Fb} (hu:∀ x∈Mf y,O7 g D i x) (hi:Idx g y) (hG:∀ j,j<i->Good g D j):∃ r,Gu (g,D,y)=some r:=by
 unfold Gu PN;refine ig (D3 hD hS hu hi hG) fun r _=>Vc (jc _) (Vc ?_ (jc _))
 by_cases h1:(0:Int)<y.2.2.2.2.2.1
 · simp only [h1,decide_true,cond_true,nt];by_cases h2:y.2.2.2.2.2.1<(fa g.2.2.2.2.2.2.2:Int)
   · simp only [h2,decide_true,cond_true,Am (Int.le_of_lt h1) h2,Xa];exact jc _
   · simp only [h2,decide_false,cond_false];exact jc _
 · simp only [h1,decide_false,cond_false];exact jc _
theorem p8 {g:Ba} {D:List Int} (hD:jq g D) (hS:(yg g).length<=64) {i:Nat} {y:Fb} (hu:∀ x∈Mf y,O7 g D i x) (hi:Idx g y) (hG:∀ j,j<i->Good g D j) (a b c):Fn (y.1=15->14<=y.2.2.2.2.1/\y.2.2.2.2.1<=19) (qw.m (D,a,b,c,g,y)):=by
 simp only [PD.m,qw];have h42:=J3 hD hS hu hi hG
 repeat' (first|exact ji|(refine rh (fun h=> ?_) (fun h=> ?_))|(refine L1 h42 fun _ _=> ?_)|(refine My fun h=> ?_))
 all_goals
  intro k;simp_all
theorem Good.nx {g:Ba} {D:List Int} {j:Nat} (h:Good g D j):(at' g j).2.2.2.2.2.2.1<(g.1.length:Int)/\(at' g j).2.2.2.2.2.2.2<(g.1.length:Int):=by
 obtain ⟨h1,h2,h3⟩:=h.Pt;by_cases k1:(at' g j).1=15
 · have:=h1 k1;omega
 · by_cases k2:(at' g j).1=21
   · have:=h2 k2;omega
   · have:=h3 k1 k2;omega
theorem aac (g:Ba) (y:Fb) (D a b c d):Fn (iM y (g.1.length:Int)/\(1<=y.1/\y.1<=21)/\(y.1=2\/y.1=3->y.2.2.2.1=0)) (nD.m (D,a,b,c,d,g,y)):=by
 simp only [PD.m,nD];obtain ⟨r,h1,h2⟩:=kaa y (nt g.1.length) (by simp only [nt];omega);refine rh (fun _=>ji) fun c1=>rh (fun _=>ji) fun c2=>rh (fun _=>rh (fun _=>ji) fun _=> ?_) fun _=> ?_
 all_goals
  have c1:=of_decide_eq_false c1;have c2:=of_decide_eq_false c2;obtain ⟨u,u1,u2⟩:=naa y;rw [u1,da];refine rh (fun _=>ji) fun cu=> ?_
  rw [h1];exact My fun h=>⟨h2 (by simpa using h),⟨by omega,by omega⟩,u2 (by simpa using cu)⟩
theorem kac {g : Ba} {D : List Int} (hL : g.1.length ≤ 4096) (hD : jq g D) (hS : (yg g).length ≤ 64) :
    ∃ e, Oa (Hx.m (D, g.1, nt g.1.length, g)) 0 = some e ∧ ((∃ u, e = .inl u) ∨ (∃ u, e = .inr u) ∧ ∀ j, j < g.1.length → Good g D j) := by
  refine Nh (n := g.1.length) (step := Hx.m (D, g.1, nt g.1.length, g)) (by omega) (fun k => ∀ j, j < k → Good g D j) (fun e => (∃ u, e = .inl u) ∨ (∃ u, e = .inr u) ∧ ∀ j, j < g.1.length → Good g D j) (fun j h => absurd h (Xi _)) (fun k hk hI => ?_) (fun hI => ?_)
  · have h' : (k : Int) < (g.1.length : Int) := by omega
    obtain ⟨y, hy⟩ : ∃ y, gx g.1 k Ta = y := ⟨_, rfl⟩
    have kp : at' g k = y := hy
    simp only [LD.m, Hx, nt, h', decide_true, cond_true, Rh hk, Xa, Ca, hy]
    obtain ⟨r, q1, q2⟩ := aac g y D (k : Int) g.1 (g.1.length : Int) (k : Int)
    rw [q1]
    simp only [da]
    cases r
    · simp only [cond_false]
      rw [haa]
      simp only [da]
      obtain ⟨e, l1, l2⟩ := I8 hD hS k y (Mf y) (K3 y) g.1 (g.1.length : Int) (k : Int)
      simp only [nt] at l1
      rw [l1]
      simp only [da]
      rcases l2 with ⟨u, rfl⟩ | ⟨⟨u, rfl⟩, hu⟩
      · exact lj (.inl ⟨(), rfl⟩)
      · simp only [qt]
        rw [PZ]
        simp only [da]
        obtain ⟨r, w1, w2⟩ := s8 g y D g.1 (g.1.length : Int) (k : Int)
        rw [w1]
        simp only [da]
        cases r
        · simp only [cond_false]
          have hi := w2 rfl
          obtain ⟨b, v1, v2⟩ := p8 hD hS hu hi hI g.1 (g.1.length : Int) (k : Int)
          rw [v1]
          simp only [da]
          cases b
          · exact zx fun j hj => by
              by_cases e : j = k
              · subst e; exact ⟨by rw [kp]; exact hu, by rw [kp]; exact hi, by rw [kp]; exact (q2 rfl).1, by rw [kp]; exact (q2 rfl).2.1, by rw [kp]; exact (q2 rfl).2.2, by rw [kp]; exact v2 rfl⟩
              · exact hI j (by omega)
          · exact lj (.inl ⟨(), rfl⟩)
        · exact lj (.inl ⟨(), rfl⟩)
    · exact lj (.inl ⟨(), rfl⟩)
  · simp only [LD.m, Hx, nt, Mb, decide_false, cond_false]
    exact ⟨_, rfl, .inr ⟨⟨(), rfl⟩, hI⟩⟩
end Go.U
end
section
set_option maxRecDepth 20000
namespace Go.U
open Go
def lS (l:List Bool) (n:Int):Prop:=n<0\/gx l n.toNat false=true
theorem H8 (g:Ba) (a b) (nx:Ra) (l:List Bool) (h1:nx.1<(l.length:Int)) (h2:nx.2<(l.length:Int)):∃ e,Oa (Jn.m (a,b,nx,g,l)) (true,0)=some e/\(e=true->lS l nx.1/\lS l nx.2):=by
 refine Eg (step:=Jn.m (a,b,nx,g,l)) (t:=(true,0)) (fun t=>t.2=0\/(t.2=1/\(t.1=true->lS l nx.1))\/(t.2=2/\(t.1=true->lS l nx.1/\lS l nx.2))) (fun t=>2-t.2.toNat) (fun e=>e=true->lS l nx.1/\lS l nx.2) (.inl rfl) (by simp) (fun t ht=> ?_);obtain ⟨c,i⟩:=t;simp only at ht;simp only [LD.m,Jn];have w0:Ga ((0:Int)+1)=1:=by decide
 have w1:Ga ((1:Int)+1)=2:=by decide
 rcases ht with rfl|⟨rfl,q⟩|⟨rfl,q⟩
 · have d1:(0:Int)<2:=by decide
   simp only [d1,decide_true,cond_true,w0];refine .inl ?_;cases c
   · exact ⟨_,rfl,.inr (.inl ⟨rfl,fun h=>by cases h⟩),by simp⟩
   · simp only [cond_true];by_cases hn:nx.1<0
     · simp only [hn,decide_true,cond_true];exact ⟨_,rfl,.inr (.inl ⟨rfl,fun _=> .inl hn⟩),by simp⟩
     · simp only [hn,decide_false,cond_false,Am (show 0<=nx.1 by omega) h1,Xa];exact ⟨_,rfl,.inr (.inl ⟨rfl,fun h=> .inr h⟩),by simp⟩
 · have d1:(1:Int)<2:=by decide
   have d2:¬ (1:Int)=0:=by decide
   simp only [d1,d2,decide_true,decide_false,cond_true,cond_false,w1];refine .inl ?_;cases c
   · exact ⟨_,rfl,.inr (.inr ⟨rfl,fun h=>by cases h⟩),by simp⟩
   · simp only [cond_true];by_cases hn:nx.2<0
     · simp only [hn,decide_true,cond_true];exact ⟨_,rfl,.inr (.inr ⟨rfl,fun _=>⟨q rfl,.inl hn⟩⟩),by simp⟩
     · simp only [hn,decide_false,cond_false,Am (show 0<=nx.2 by omega) h2,Xa];exact ⟨_,rfl,.inr (.inr ⟨rfl,fun h=>⟨q rfl,.inr h⟩⟩),by simp⟩
 · have d1:¬ (2:Int)<2:=by decide
   simp only [d1,decide_false,cond_false];exact .inr ⟨_,rfl,q⟩
def cf (l:List Bool):Nat:=Zd (fun b=> !b) l
theorem Qaa {l:List Bool} {i:Nat} (hi:i<l.length) (h:gx l i false=false):cf (l.set i true)<cf l:=by
 unfold cf;rw [List.countP_set hi];have e:l[i]=false:=by
  have:=jh (d:=false) hi;rw [h,ya hi] at this;exact nk this
 have:0<Zd (fun b=> !b) l:=List.countP_pos_iff.2 ⟨false,by rw [<- e];exact List.getElem_mem hi,rfl⟩;simp [e];omega
def tB (g:Ba) (l:List Bool):Prop:=∃ rk:Nat->Nat,∀ j,gx l j false=true->rk j+cf l<l.length/\((at' g j).1=17\/(at' g j).1=20\/∀ n,(n=(at' g j).2.2.2.2.2.2.1\/n=(at' g j).2.2.2.2.2.2.2)->n<0\/(gx l n.toNat false=true/\rk n.toNat<rk j))
theorem iw {α:Type} {l:List α} {i j:Nat} {d x:α} (hi:i<l.length):gx (l.set i x) j d=if i=j then x else gx l j d:=by
 simp only [gx,Ea,Kb];split
 · simp [hi]
 · rfl
theorem V3 {l:List Bool} {i:Nat} (hi:i<l.length) (h:gx l i false=false):cf (l.set i true)+1=cf l:=by
 unfold cf;rw [List.countP_set hi];have e:l[i]=false:=by
  have:=jh (d:=false) hi;rw [h,ya hi] at this;exact nk this
 have:0<Zd (fun b=> !b) l:=List.countP_pos_iff.2 ⟨false,by rw [<- e];exact List.getElem_mem hi,rfl⟩;simp [e];omega
theorem kU {g:Ba} {l:List Bool} {i:Nat} (hi:i<l.length) (h:gx l i false=false) (hG:tB g l) (hx:(at' g i).1=17\/(at' g i).1=20\/(lS l (at' g i).2.2.2.2.2.2.1/\lS l (at' g i).2.2.2.2.2.2.2)):tB g (l.set i true):=by
 obtain ⟨rk,hr⟩:=hG;have hc:=V3 hi h;have tK:cf l<=l.length:=List.countP_le_length;have gk:∀ {n:Int},gx l n.toNat false=true->gx (l.set i true) n.toNat false=true/\(if n.toNat=i then l.length-cf l else rk n.toNat)=rk n.toNat/\rk n.toNat<l.length-cf l:=fun {n} hn=>by
   have Nc:n.toNat≠i:=fun e=>by rw [e,h] at hn;cases hn
   rw [iw hi,if_neg (fun e=>Nc e.symm),if_neg Nc];have:=(hr _ hn).1;exact ⟨hn,rfl,by omega⟩
 refine ⟨fun k=>if k=i then l.length-cf l else rk k,fun j hj=> ?_⟩;simp only [fe];by_cases e:j=i
 · subst e;rw [if_pos rfl];refine ⟨by omega,?_⟩;rcases hx with h1|h1|⟨h1,h2⟩
   · exact .inl h1
   · exact .inr (.inl h1)
   · refine .inr (.inr fun n hn=> ?_);have ho:lS l n:=by rcases hn with rfl|rfl<;>assumption
     rcases ho with ho|ho
     · exact .inl ho
     · obtain ⟨q1,q2,q3⟩:=gk ho;exact .inr ⟨q1,by rw [q2];exact q3⟩
 · rw [iw hi,if_neg (fun e'=>e e'.symm)] at hj;obtain ⟨p1,p2⟩:=hr j hj;rw [if_neg e];refine ⟨by omega,p2.imp_right fun p2=>p2.imp_right fun p2 n hn=> ?_⟩;rcases p2 n hn with ho|⟨ho,hl⟩
   · exact .inl ho
   · obtain ⟨q1,q2,q3⟩:=gk ho;exact .inr ⟨q1,by rw [q2];exact hl⟩
theorem lac (g:Ba) (hN:g.1.length<=4096) (hx:∀ j,j<g.1.length->(at' g j).2.2.2.2.2.2.1<(g.1.length:Int)/\(at' g j).2.2.2.2.2.2.2<(g.1.length:Int)) (l0:List Bool) (CH:l0.length=g.1.length) (hG0:tB g l0):
  ∃ e,Oa (Hp.m g) (false,(Ga ((nt (fa g.1))-(1:Int))),l0)=some e/\e.2.length=g.1.length/\tB g e.2/\cf e.2<=cf l0/\(e.1=true->cf e.2<cf l0):=by
 rw [Sb (by simp only [nt];omega) (by simp only [nt];omega)];refine Eg (step:=Hp.m g) (fun t=>(∃ n:Nat,n<=g.1.length/\t.2.1=(n:Int)-1)/\t.2.2.length=g.1.length/\tB g t.2.2/\cf t.2.2<=cf l0/\(t.1=true->cf t.2.2<cf l0)) (fun t=>(t.2.1+1).toNat) (fun e=>e.2.length=g.1.length/\tB g e.2/\cf e.2<=cf l0/\(e.1=true->cf e.2<cf l0))
  ⟨⟨g.1.length,oa _,rfl⟩,CH,hG0,oa _,fun h=>by cases h⟩ (by simp only [nt];omega) (fun t ⟨⟨n,hn,ht⟩,hl,hG,hc,hs⟩=> ?_)
 obtain ⟨c,i,l⟩:=t;simp only at ht hl hG hc hs;subst ht;simp only [LD.m,Hp];cases n with
 |zero=>
  have d:¬ (0:Int)<=((0:Nat):Int)-1:=by decide
  simp only [d,decide_false,cond_false];exact .inr ⟨_,rfl,hl,hG,hc,hs⟩
 |succ n=>
  have d:(0:Int)<=((n+1:Nat):Int)-1:=by omega
  have e:((n+1:Nat):Int)-1=(n:Int):=by omega
  have Bj:n<l.length:=by omega
  have hng:n<g.1.length:=by omega
  have w:Ga ((n:Int)-1)=(n:Int)-1:=Sb (by omega) (by omega);simp only [d,decide_true,cond_true];rw [e];simp only [Rh Bj,Rh hng,Xa,Ca,w];refine .inl ?_;cases hg:gx l n false
  · have hm:=Qaa Bj hg;have mark:((at' g n).1=17\/(at' g n).1=20\/(lS l (at' g n).2.2.2.2.2.2.1/\lS l (at' g n).2.2.2.2.2.2.2))->∃ t',some (Sum.inl (true,((n:Int)-1,l.set n true)))=some (Sum.inl t':(Bool×Int×List Bool) ⊕ (Bool×List Bool))/\((∃ m:Nat,m<=g.1.length/\t'.2.1=(m:Int)-1)/\t'.2.2.length=g.1.length/\tB g t'.2.2/\cf t'.2.2<=cf l0/\(t'.1=true->cf t'.2.2<cf l0))/\(t'.2.1+1).toNat<((n:Int)+1).toNat:=fun ho=>
      ⟨_,rfl,⟨⟨n,by omega,rfl⟩,by simpa using hl,kU Bj hg hG ho,by simp only;omega,fun _=>by simp only;omega⟩,by simp only;omega⟩
    have stay:∃ t',some (Sum.inl (c,((n:Int)-1,l)))=some (Sum.inl t':(Bool×Int×List Bool) ⊕ (Bool×List Bool))/\((∃ m:Nat,m<=g.1.length/\t'.2.1=(m:Int)-1)/\t'.2.2.length=g.1.length/\tB g t'.2.2/\cf t'.2.2<=cf l0/\(t'.1=true->cf t'.2.2<cf l0))/\(t'.2.1+1).toNat<((n:Int)+1).toNat:=
      ⟨_,rfl,⟨⟨n,by omega,rfl⟩,hl,hG,hc,hs⟩,by simp only;omega⟩
    simp only [cond_false];cases h17:(decide ((gx g.1 n Ta).1=(17:Int)))
    · simp only [Ve,cond_true];cases h20:(decide ((gx g.1 n Ta).1=(20:Int)))
      · simp only [Ve,cond_true];obtain ⟨x1,x2⟩:=hx n hng;obtain ⟨r,hr,oA⟩:=H8 g c (n:Int) (gx g.1 n Ta).2.2.2.2.2.2 l (by rw [hl];exact x1) (by rw [hl];exact x2);rw [hr];simp only [da];cases r
        · exact stay
        · exact mark (.inr (.inr (oA rfl)))
      · exact mark (.inr (.inl (of_decide_eq_true h20)))
    · exact mark (.inl (of_decide_eq_true h17))
  · simp only [cond_true];exact ⟨_,rfl,⟨⟨n,by omega,rfl⟩,hl,hG,hc,hs⟩,by simp only;omega⟩
theorem dag {n:Nat} (h:n<=4096):(decide (0<=(n:Int))&&decide ((n:Int)<=(n:Int))&&decide (1 * (n:Int)<=70368744177664)&&decide ((n:Int)<9223372036854775808))=true:=by
 have h1:(0:Int)<=n:=by omega
 have h2:1 * (n:Int)<=70368744177664:=by omega
 have h3:(n:Int)<9223372036854775808:=by omega
 rw [decide_eq_true h1,decide_eq_true (bh _),decide_eq_true h2,decide_eq_true h3];rfl
def Mw (g:Ba) (rk:Nat->Nat):Prop:=∀ j,j<g.1.length->rk j<g.1.length/\((at' g j).1=17\/(at' g j).1=20\/∀ n,(n=(at' g j).2.2.2.2.2.2.1\/n=(at' g j).2.2.2.2.2.2.2)->n<0\/rk n.toNat<rk j)
theorem caa (g:Ba) (hN:g.1.length<=4096) (hx:∀ j,j<g.1.length->(at' g j).2.2.2.2.2.2.1<(g.1.length:Int)/\(at' g j).2.2.2.2.2.2.2<(g.1.length:Int)):∃ r,wD g=some r/\(r=true->∃ rk,Mw g rk):=by
 unfold wD ON;have b1:(decide (0<=(nt (fa g.1)))&&decide ((nt (fa g.1))<=(nt (fa g.1)))&&decide (1 * (nt (fa g.1))<=70368744177664)&&decide ((nt (fa g.1))<9223372036854775808))=true:=dag hN;rw [b1,Xa];have hG0:tB g (Ja (ga (nt (fa g.1))) false):=⟨fun _=>0,fun j hj=>by
   simp only [gx,Ea,Ei] at hj;split at hj<;>simp at hj⟩
 obtain ⟨e,h1,h2,h2g⟩:=Eg (step:=xw.m g) (t:=(true,Ja (ga (nt (fa g.1))) false)) (fun t=>t.2.length=g.1.length/\tB g t.2) (fun t=>2 * cf t.2+cond t.1 1 0) (fun e=>e.length=g.1.length/\tB g e) ⟨by simp [nt],hG0⟩ (by
     have:cf (Ja (ga (nt (fa g.1))) false)<=4096:=Ib List.countP_le_length (by simp [nt];exact hN);simp only [cond_true];omega) (fun t ⟨ht,htG⟩=>by
   obtain ⟨c,l⟩:=t;simp only at ht htG;simp only [LD.m,xw];cases c
   · exact .inr ⟨_,rfl,ht,htG⟩
   · obtain ⟨e,q1,q2,q2g,q3,q4⟩:=lac g hN hx l ht htG;have q1':Oa (LD.m Hp g) (false,(Ga ((nt (fa g.1))-(1:Int))),l)=some e:=q1;simp only [cond_true];refine .inl ⟨(e.1,e.2),?_,⟨q2,q2g⟩,?_⟩
     · rw [q1'];rfl
     · cases hb:e.1
       · simp only [cond_false,cond_true];omega
       · simp only [cond_true];have:=q4 hb;omega)
 rw [h1];simp only [da];obtain ⟨e2,h3,h4⟩:=Nh (n:=e.length) (step:=Gn.m ((nt (fa e)),e)) (by omega) (fun k=>∀ i,i<k->gx e i false=true) (fun q=>(∃ u,q= .inl u)\/(∃ u,q= .inr u)/\∀ i,i<e.length->gx e i false=true) (fun i h=>absurd h (Xi _)) (fun i hi hI=>by
   have h':(i:Int)<(e.length:Int):=by omega
   simp only [LD.m,Gn,nt,h',decide_true,cond_true,Rh hi,Xa,Ca];refine qh (fun _=>lj (.inl ⟨(),rfl⟩)) (fun c=>zx fun j hj=> ?_);by_cases ej:j=i
   · subst ej;simpa using c
   · exact hI j (by omega)) (fun hI=>by
   simp only [LD.m,Gn,nt,Mb,decide_false,cond_false];exact ⟨_,rfl,.inr ⟨⟨(),rfl⟩,hI⟩⟩)
 rw [h3];simp only [da];rcases h4 with ⟨u,rfl⟩|⟨⟨u,rfl⟩,Af⟩
 · exact ⟨false,rfl,fun h=>by cases h⟩
 · refine ⟨true,rfl,fun _=> ?_⟩;obtain ⟨rk,hr⟩:=h2g;refine ⟨rk,fun j hj=> ?_⟩;obtain ⟨p1,p2⟩:=hr j (Af j (by omega));exact ⟨by omega,p2.imp_right fun p2=>p2.imp_right fun p2 n hn=>(p2 n hn).imp_right And.right⟩
structure Ng (g:Ba) (D:List Int):Prop where
 N1:0<g.1.length
 N:g.1.length<=4096
 S:(yg g).length<=64
 A:(Xe g).length<=16
 I:BO g
 defs:jq g D
 xK:∀ j,j<g.1.length->Good g D j
 Saf:∃ rk,Mw g rk
theorem Xad {g:Ba} (h:E4 g):∃ r,aQ g=some r/\(r=true->∃ D,Ng g D):=by
 unfold aQ I2;have no:∃ r,some false=some r/\(r=true->∃ D,Ng g D):=⟨false,rfl,fun h=>by cases h⟩;obtain ⟨b,hb,aD⟩:Fn ((0<g.1.length/\g.1.length<=4096)/\(yg g).length<=64/\(Xe g).length<=16/\BO g) (oD.m g):=by
   simp only [PD.m,oD,nt];refine rh (fun _=>ji) fun k1=>rh (fun _=>ji) fun k2=>rh (fun _=>ji) fun k3=>rh (fun _=>ji) fun k4=> ?_
   have k3:=of_decide_eq_false k3;have k4:=of_decide_eq_false k4;have k2:=of_decide_eq_false k2;have k1:=of_decide_eq_false k1;rw [Am (by omega) (by omega),Xa];refine rh (fun _=>ji) fun _=> ?_
   obtain ⟨r,q1,q2⟩:=taa h;rw [q1];exact My fun hr=>⟨⟨by omega,by omega⟩,q2 (by simpa using hr)⟩
 rw [hb];simp only [da];cases b
 · obtain ⟨⟨hN1,hN⟩,hS,hA,hI⟩:=aD rfl;simp only [cond_false];obtain ⟨r,d1,d2⟩:=qaa g hN hS h.A;rw [d1];simp only [da];cases hr:r.2
   · exact no
   · have hD:=d2 hr;simp only [Xl,cond_false];obtain ⟨e,l1,l2⟩:=kac hN hD hS;rw [l1];simp only [da];rcases l2 with ⟨u,rfl⟩|⟨⟨u,rfl⟩,hG⟩
     · exact no
     · simp only [qt];obtain ⟨r,hr,hk⟩:=caa g hN fun j hj=>(hG j hj).nx
       rw [hr];exact ⟨r,rfl,fun h=>⟨_,hN1,hN,hS,hA,hI,hD,hG,hk h⟩⟩
 · exact no
end Go.U
end
