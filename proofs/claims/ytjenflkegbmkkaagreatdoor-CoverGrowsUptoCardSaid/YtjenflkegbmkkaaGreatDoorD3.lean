/- What these Lean functions compute: plain arithmetic of congruences, the checks of a graph, the values of its registers. -/
import Derived.Test.YtjenflkegbmkkaaGreatDoorD2
set_option linter.unusedVariables false
set_option linter.unusedSimpArgs false
set_option linter.unusedSectionVars false
section
set_option maxRecDepth 20000
namespace Go.U
open Go
theorem f29r1_tot (p):∃ r,f29_r1.m p=some r:=by
 simp only [PD.m,f29_r1]
 repeat (first|exact some_tot _|(refine cond_some ?_ ?_))
theorem f29r2_tot (p):∃ r,f29_r2.m p=some r:=by
 simp only [PD.m,f29_r2]
 repeat (first|exact some_tot _|(refine cond_some ?_ ?_))
theorem f29r3_tot (p):∃ r,f29_r3.m p=some r:=by
 simp only [PD.m,f29_r3]
 repeat (first|exact some_tot _|(refine cond_some ?_ ?_))
theorem f29r4_tot (p):∃ r,f29_r4.m p=some r:=by
 simp only [PD.m,f29_r4]
 repeat (first|exact some_tot _|(refine cond_some ?_ ?_))
theorem f29r5_tot (p):∃ r,f29_r5.m p=some r:=by
 simp only [PD.m,f29_r5]
 repeat (first|exact some_tot _|(refine cond_some ?_ ?_))
theorem f29_eq (a:TInstr):Tp (a.1=2\/a.1=3->a.2.2.2.1=0) (f29_m a):=by
 unfold f29_m f29_c;obtain ⟨e1,h1⟩:=f29r1_tot a;rw [h1,Option.bind_some];by_cases hB:a.2.2.2.1=0
 · obtain ⟨r,h⟩:=bind_tot (f29r2_tot (e1,a)) fun e2 _=>bind_tot (f29r3_tot (e1,e2,a)) fun e3 _=>bind_tot (f29r4_tot (e1,e2,e3,a)) fun e4 _=>bind_tot (f29r5_tot (e1,e2,e3,e4,a)) fun e5 _=>some_tot e5
   exact ⟨r,h,fun _ _=>hB⟩
 · by_cases hop:a.1=2\/a.1=3
   · have h2:f29_r2.m (e1,a)=some true:=by
      simp only [PD.m,f29_r2];rcases hop with hop|hop<;>simp only [hop,decide_true,cond_true]<;>cases e1<;>rfl
     rw [h2,Option.bind_some];obtain ⟨e3,h3⟩:=f29r3_tot (e1,true,a);rw [h3,Option.bind_some];obtain ⟨e4,h4⟩:=f29r4_tot (e1,true,e3,a);rw [h4,Option.bind_some];have h5:Tp (a.1=2\/a.1=3->a.2.2.2.1=0) (f29_r5.m (e1,true,e3,e4,a)):=by
      simp only [PD.m,f29_r5,Bool.not_true,cond_false,hB,decide_false]
      repeat (first|exact tp_false|refine tp_cond ?_ ?_)
     obtain ⟨r,q1,q2⟩:=h5;rw [q1];exact ⟨r,rfl,q2⟩
   · obtain ⟨r,h⟩:=bind_tot (f29r2_tot (e1,a)) fun e2 _=>bind_tot (f29r3_tot (e1,e2,a)) fun e3 _=>bind_tot (f29r4_tot (e1,e2,e3,a)) fun e4 _=>bind_tot (f29r5_tot (e1,e2,e3,e4,a)) fun e5 _=>some_tot e5
     exact ⟨r,h,fun _ k=>absurd k hop⟩
theorem f61_eq (a b:Int):f61_m (a,b)=some (decide (0<=a)&&decide (a<b)):=by
 unfold f61_m f61_c;simp only;by_cases h:0<=a<;>simp [h]
def NextOK (x:TInstr) (n:Int):Prop:=(x.1=15->(0<=x.2.2.2.2.2.2.1/\x.2.2.2.2.2.2.1<n)/\0<=x.2.2.2.2.2.2.2/\x.2.2.2.2.2.2.2<n)/\(x.1=21->x.2.2.2.2.2.2.1= -1/\x.2.2.2.2.2.2.2= -1)/\(x.1≠15->x.1≠21->(0<=x.2.2.2.2.2.2.1/\x.2.2.2.2.2.2.1<n)/\x.2.2.2.2.2.2.2= -1)
theorem f30_eq (x:TInstr) (n:Int) (hn:0<=n):∃ r,f30_m (x,n)=some r/\(r=true->NextOK x n):=by
 unfold f30_m f30_c;simp only [f61_eq,Option.bind_some];by_cases h1:x.1=15
 · simp only [h1,decide_true,cond_true];cases hb:(decide (0<=x.2.2.2.2.2.2.1)&&decide (x.2.2.2.2.2.2.1<n))
   · exact ⟨false,rfl,fun h=>by cases h⟩
   · simp at hb;exact ⟨_,rfl,fun h=>by simp at h;exact ⟨fun _=>⟨hb,h⟩,fun k=>by omega,fun k=>absurd h1 k⟩⟩
 · simp only [h1,decide_false,cond_false];by_cases h2:x.1=21
   · simp only [h2,decide_true,cond_true];by_cases h3:x.2.2.2.2.2.2.1= -1
     · simp only [h3,decide_true,cond_true];exact ⟨_,rfl,fun h=>by simp at h;exact ⟨fun k=>absurd k h1,fun _=>⟨h3,h⟩,fun _ k=>absurd h2 k⟩⟩
     · simp only [h3,decide_false,cond_false];exact ⟨false,rfl,fun h=>by cases h⟩
   · simp only [h2,decide_false,cond_false];cases hb:(decide (0<=x.2.2.2.2.2.2.1)&&decide (x.2.2.2.2.2.2.1<n))
     · exact ⟨false,rfl,fun h=>by cases h⟩
     · simp at hb;exact ⟨_,rfl,fun h=>by simp at h;exact ⟨fun k=>absurd k h1,fun k=>absurd k h2,fun _ _=>⟨hb,h⟩⟩⟩
def f31_l (a:TInstr):List Int:=
 cond (decide (a.1=2)) [a.2.2.1] (cond (decide (a.1=3)) [a.2.2.1] (cond (decide (a.1=13)) [a.2.2.1] (cond (decide (a.1=4)) [a.2.2.1,a.2.2.2.1] (cond (decide (a.1=5)) [a.2.2.1,a.2.2.2.1] (cond (decide (a.1=6)) [a.2.2.1,a.2.2.2.1]
 (cond (decide (a.1=7)) [a.2.2.1,a.2.2.2.1] (cond (decide (a.1=8)) [a.2.2.1,a.2.2.2.1] (cond (decide (a.1=9)) [a.2.2.1,a.2.2.2.1] (cond (decide (a.1=10)) [a.2.2.1,a.2.2.2.1] (cond (decide (a.1=15)) [a.2.2.1,a.2.2.2.1] (cond (decide (a.1=11)) [a.2.2.2.1] (cond (decide (a.1=14)) [a.2.1,a.2.2.2.1] []))))))))))))
theorem cond_some_out {α:Type} {b:Bool} {x y:α}:cond b (some x) (some y)=some (cond b x y):=by cases b<;>rfl
theorem f31_eq (a:TInstr):f31_m a=some (f31_l a):=by
 unfold f31_m f31_c f31_l;simp only [cond_some_out]
theorem cond_len {b:Bool} {l m:List Int} (h1:l.length<=2) (h2:m.length<=2):(cond b l m).length<=2:=by cases b<;>assumption
theorem f31_len (a:TInstr):(f31_l a).length<=2:=by
 unfold f31_l
 repeat (first|exact (show (0:Nat)<=2 by decide)|exact (show (1:Nat)<=2 by decide)|exact (show (2:Nat)<=2 by decide)|refine cond_len ?_ ?_)
def Use (g:TGraph) (D:List Int) (i:Nat) (x:Int):Prop:=0<=x/\x<g.2.2.1/\(((scs g).length:Int)<=x->gx D (x-((scs g).length:Int)).toNat 0<(i:Int))
theorem r14_eq {g:TGraph} {D:List Int} (hD:DefsOK g D) (hS:(scs g).length<=64) (i:Nat) (x:Int) (a b c e f j) (y:TInstr):∃ r,f8_r14.m (D,(i:Int),x,a,b,c,e,f,j,(g,y))=some r/\(r=false->Use g D i x):=by
 simp only [PD.m,f8_r14,nt];by_cases h1:x<0
 · simp only [h1,decide_true,cond_true];exact ⟨true,rfl,fun h=>by cases h⟩
 · by_cases h2:g.2.2.1<=x
   · simp only [h1,h2,decide_true,decide_false,cond_true,cond_false];exact ⟨true,rfl,fun h=>by cases h⟩
   · simp only [h1,h2,decide_false,cond_false];have hr:=hD.regs;have hl:=hD.len;by_cases h3:((scs g).length:Int)<=x
     · have h3':(List.length g.2.2.2.2.2.1:Int)<=x:=h3;simp only [h3',decide_true,cond_true];have w:wi64 (x-(List.length g.2.2.2.2.2.1:Int))=x-((scs g).length:Int):=wi64_of (by show _<=x-((scs g).length:Int);omega) (by show x-((scs g).length:Int)<=_;omega);simp only [w,inRI (show 0<=x-((scs g).length:Int) by omega) (show x-((scs g).length:Int)<(D.length:Int) by omega),ask_true];exact ⟨_,rfl,fun h=>⟨by omega,by omega,fun _=>by simpa using h⟩⟩
     · have h3':¬ (List.length g.2.2.2.2.2.1:Int)<=x:=h3;simp only [h3',decide_false,cond_false];exact ⟨false,rfl,fun _=>⟨by omega,by omega,fun h=>absurd h h3⟩⟩
theorem l12_eq {g:TGraph} {D:List Int} (hD:DefsOK g D) (hS:(scs g).length<=64) (i:Nat) (y:TInstr) (l:List Int) (hl:l.length<=2) (a b c):
   ∃ e,loopAll (f8_l12.m (D,(i:Int),a,b,c,l,nt l.length,g,y)) 0=some e/\((∃ u,e= .inl u)\/(∃ u,e= .inr u)/\∀ x∈l,Use g D i x):=by
 refine each_tot2 (n:=l.length) (step:=f8_l12.m (D,(i:Int),a,b,c,l,nt l.length,g,y)) (by omega) (fun k=>∀ j,j<k->Use g D i (gx l j 0)) (fun e=>(∃ u,e= .inl u)\/(∃ u,e= .inr u)/\∀ x∈l,Use g D i x) (fun j h=>absurd h (Nat.not_lt_zero _)) (fun k hk hI=> ?_) (fun hI=> ?_)
 · have h':(k:Int)<(l.length:Int):=by omega
   simp only [LD.m,f8_l12,nt,h',decide_true,cond_true,inR hk,ask_true,Int.toNat_natCast];obtain ⟨r,h1,h2⟩:=r14_eq hD hS i (gx l k 0) a b c l (nt l.length) (k:Int) y;simp only [nt] at h1;rw [h1];simp only [Option.bind_some];cases r
   · exact gd_ki fun j hj=>by
      by_cases e:j=k
      · subst e;exact h2 rfl
      · exact hI j (by omega)
   · exact gd_ke (.inl ⟨(),rfl⟩)
 · simp only [LD.m,f8_l12,nt,Int.lt_irrefl,decide_false,cond_false];exact ⟨_,rfl,.inr ⟨⟨(),rfl⟩,fun x hx=>by
     obtain ⟨j,hj⟩:=List.mem_iff_getElem?.1 hx;have hlt:j<l.length:=by rcases Nat.lt_or_ge j l.length with h|h;exact h;rw [List.getElem?_eq_none h] at hj;cases hj
     have:=hI j hlt;rw [gx_of hj] at this;exact this⟩⟩
end Go.U
end
section
set_option maxRecDepth 20000
namespace Go.U
open Go
def Fn (P:Prop) (x:Option Bool):Prop:=∃ r,x=some r/\(r=false->P)
theorem fn_cond {P:Prop} {b:Bool} {x y:Option Bool} (hx:b=true->Fn P x) (hy:b=false->Fn P y):Fn P (cond b x y):=by
 cases b
 · exact hy rfl
 · exact hx rfl
theorem fn_true {P:Prop}:Fn P (some true):=⟨true,rfl,fun h=>by cases h⟩
theorem fn_some {P:Prop} {b:Bool} (h:b=false->P):Fn P (some b):=⟨b,rfl,h⟩
theorem fn_bind {α:Type} {P:Prop} {x:Option α} {f:α->Option Bool} (hx:∃ r,x=some r) (hf:∀ a,x=some a->Fn P (f a)):Fn P (x.bind f):=by
 obtain ⟨a,h⟩:=hx;rw [h];exact hf a h
structure Idx (g:TGraph) (y:TInstr):Prop where
 k11:y.1=11\/y.1=14->0<=y.2.2.1/\y.2.2.1<((inps g).length:Int)
 k12:y.1=12->0<=y.2.2.1/\y.2.2.1<((arrs g).length:Int)
 k13:y.1=13->0<=y.2.1/\y.2.1<((scs g).length:Int)
theorem r17_eq' (p):f8_r17.m p=some (decide (p.2.2.2.2.2.1=(11:Int))||decide (p.2.2.2.2.2.1=(14:Int))):=by
 simp only [PD.m,f8_r17];cases decide (p.2.2.2.2.2.1=(11:Int))<;>rfl
theorem r18_eq (g:TGraph) (y:TInstr) (D l n t):Fn (Idx g y) (f8_r18.m (D,(decide (y.1=(11:Int))||decide (y.1=(14:Int))),l,n,t,g,y)):=by
 simp only [PD.m,f8_r18,nt]
 repeat' (first|exact fn_true|(refine fn_some fun h=> ?_)|(refine fn_cond (fun h=> ?_) (fun h=> ?_)))
 all_goals
  rename_i h1;refine ⟨fun k=> ?_,fun k=> ?_,fun k=> ?_⟩
 all_goals simp_all [inps,arrs,scs]
 all_goals (first|omega|(have q:=of_decide_eq_false ‹decide (_<=_)=false›;omega))
structure Good (g:TGraph) (D:List Int) (j:Nat):Prop where
 use:∀ x∈f31_l (at' g j),Use g D j x
 idx:Idx g (at' g j)
 nxt:NextOK (at' g j) (g.1.length:Int)
 op:1<=(at' g j).1/\(at' g j).1<=21
 un:(at' g j).1=2\/(at' g j).1=3->(at' g j).2.2.2.1=0
 tst:(at' g j).1=15->14<=(at' g j).2.2.2.2.1/\(at' g j).2.2.2.2.1<=19
theorem f62_tot {g:TGraph} {D:List Int} (hD:DefsOK g D) (hS:(scs g).length<=64) {i:Nat} {y:TInstr} (hu:∀ x∈f31_l y,Use g D i x) (hi:Idx g y) (hG:∀ j,j<i->Good g D j):∃ r,f62_m (g,D,y)=some r:=by
 unfold f62_m f62_c;simp only [nt];refine cond_some (some_tot _) (cond_some (some_tot _) (cond_some (some_tot _) (cond_some (some_tot _) (cond_some (some_tot _) (cond_some (some_tot _) (cond_some (some_tot _) (cond_some (some_tot _) ?_)))))));by_cases h14:y.1=14
 · obtain ⟨a,b⟩:=hi.k11 (.inr h14);have b':y.2.2.1<(List.length g.2.2.2.2.2.2.1:Int):=b;simp only [h14,decide_true,cond_true,inRI a b',ask_true];exact cond_some (some_tot _) (some_tot _)
 · simp only [h14,decide_false,cond_false];refine cond_some (some_tot _) ?_;by_cases h13:y.1=13
   · obtain ⟨a,b⟩:=hi.k13 h13;have b':y.2.1<(List.length g.2.2.2.2.2.1:Int):=b;simp only [h13,decide_true,cond_true,inRI a b',ask_true];by_cases hs:(List.length g.2.2.2.2.2.1:Int)<=y.2.2.1
     · simp only [hs,decide_true,cond_true];have hmem:y.2.2.1∈f31_l y:=by simp [f31_l,h13]
       obtain ⟨u1,u2,u3⟩:=hu _ hmem;have hr:=hD.regs;have hl:=hD.len;have hs':((scs g).length:Int)<=y.2.2.1:=hs;have u3:=u3 hs';obtain ⟨k,hk⟩:=Int.eq_ofNat_of_zero_le (show 0<=y.2.2.1-((scs g).length:Int) by omega);have w:wi64 (y.2.2.1-(List.length g.2.2.2.2.2.1:Int))=(k:Int):=by
         show wi64 (y.2.2.1-((scs g).length:Int))=_;rw [hk,wi64_of (by omega) (by omega)]
       have hkD:k<D.length:=by omega
       obtain ⟨j,d1,d2,d3,d4⟩:=hD.dn k hkD;rw [hk,Int.toNat_natCast,gx_of d1] at u3;have hji:j<i:=by omega
       have gj:=hG j hji;simp only [w,inR hkD,ask_true,Int.toNat_natCast,gx_of d1,inR d2];by_cases h12:(gx g.1 j dInstr).1=12
       · obtain ⟨i1,i2⟩:=gj.idx.k12 h12;have i1:0<=(gx g.1 j dInstr).2.2.1:=i1;have i2':(gx g.1 j dInstr).2.2.1<(List.length g.2.2.2.2.1:Int):=i2;simp only [h12,decide_true,cond_true,inRI i1 i2',ask_true];refine bind_tot (f59_tot _) fun _ _=>cond_some (bind_tot (f60_tot _) fun _ _=>cond_some (some_tot _) (some_tot _)) (some_tot _)
       · simp only [h12,decide_false,cond_false];exact some_tot _
     · simp only [hs,decide_false,cond_false];exact some_tot _
   · simp only [h13,decide_false,cond_false];exact some_tot _
theorem f32_tot {g:TGraph} {D:List Int} (hD:DefsOK g D) (hS:(scs g).length<=64) {i:Nat} {y:TInstr} (hu:∀ x∈f31_l y,Use g D i x) (hi:Idx g y) (hG:∀ j,j<i->Good g D j):∃ r,f32_m (g,D,y)=some r:=by
 unfold f32_m f32_c;refine bind_tot (f62_tot hD hS hu hi hG) fun r _=>cond_some (some_tot _) (cond_some ?_ (some_tot _))
 by_cases h1:(0:Int)<y.2.2.2.2.2.1
 · simp only [h1,decide_true,cond_true,nt];by_cases h2:y.2.2.2.2.2.1<(List.length g.2.2.2.2.2.2.2:Int)
   · simp only [h2,decide_true,cond_true,inRI (Int.le_of_lt h1) h2,ask_true];exact some_tot _
   · simp only [h2,decide_false,cond_false];exact some_tot _
 · simp only [h1,decide_false,cond_false];exact some_tot _
theorem r20_eq {g:TGraph} {D:List Int} (hD:DefsOK g D) (hS:(scs g).length<=64) {i:Nat} {y:TInstr} (hu:∀ x∈f31_l y,Use g D i x) (hi:Idx g y) (hG:∀ j,j<i->Good g D j) (a b c):Fn (y.1=15->14<=y.2.2.2.2.1/\y.2.2.2.2.1<=19) (f8_r20.m (D,a,b,c,g,y)):=by
 simp only [PD.m,f8_r20];have h42:=f32_tot hD hS hu hi hG
 repeat' (first|exact fn_true|(refine fn_cond (fun h=> ?_) (fun h=> ?_))|(refine fn_bind h42 fun _ _=> ?_)|(refine fn_some fun h=> ?_))
 all_goals
  intro k;simp_all
theorem Good.nx {g:TGraph} {D:List Int} {j:Nat} (h:Good g D j):(at' g j).2.2.2.2.2.2.1<(g.1.length:Int)/\(at' g j).2.2.2.2.2.2.2<(g.1.length:Int):=by
 obtain ⟨h1,h2,h3⟩:=h.nxt;by_cases k1:(at' g j).1=15
 · have:=h1 k1;omega
 · by_cases k2:(at' g j).1=21
   · have:=h2 k2;omega
   · have:=h3 k1 k2;omega
theorem r9_eq (g:TGraph) (y:TInstr) (D a b c d):Fn (NextOK y (g.1.length:Int)/\(1<=y.1/\y.1<=21)/\(y.1=2\/y.1=3->y.2.2.2.1=0)) (f8_r9.m (D,a,b,c,d,g,y)):=by
 simp only [PD.m,f8_r9];obtain ⟨r,h1,h2⟩:=f30_eq y (nt g.1.length) (by simp only [nt];omega);refine fn_cond (fun _=>fn_true) fun c1=>fn_cond (fun _=>fn_true) fun c2=>fn_cond (fun _=>fn_cond (fun _=>fn_true) fun _=> ?_) fun _=> ?_
 all_goals
  have c1:=of_decide_eq_false c1;have c2:=of_decide_eq_false c2;obtain ⟨u,u1,u2⟩:=f29_eq y;rw [u1,Option.bind_some];refine fn_cond (fun _=>fn_true) fun cu=> ?_
  rw [h1];exact fn_some fun h=>⟨h2 (by simpa using h),⟨by omega,by omega⟩,u2 (by simpa using cu)⟩
theorem l7_eq {g : TGraph} {D : List Int} (hL : g.1.length ≤ 4096) (hD : DefsOK g D) (hS : (scs g).length ≤ 64) :
    ∃ e, loopAll (f8_l7.m (D, g.1, nt g.1.length, g)) 0 = some e ∧ ((∃ u, e = .inl u) ∨ (∃ u, e = .inr u) ∧ ∀ j, j < g.1.length → Good g D j) := by
  refine each_tot2 (n := g.1.length) (step := f8_l7.m (D, g.1, nt g.1.length, g)) (by omega) (fun k => ∀ j, j < k → Good g D j) (fun e => (∃ u, e = .inl u) ∨ (∃ u, e = .inr u) ∧ ∀ j, j < g.1.length → Good g D j) (fun j h => absurd h (Nat.not_lt_zero _)) (fun k hk hI => ?_) (fun hI => ?_)
  · have h' : (k : Int) < (g.1.length : Int) := by omega
    obtain ⟨y, hy⟩ : ∃ y, gx g.1 k dInstr = y := ⟨_, rfl⟩
    have hat : at' g k = y := hy
    simp only [LD.m, f8_l7, nt, h', decide_true, cond_true, inR hk, ask_true, Int.toNat_natCast, hy]
    obtain ⟨r, q1, q2⟩ := r9_eq g y D (k : Int) g.1 (g.1.length : Int) (k : Int)
    rw [q1]
    simp only [Option.bind_some]
    cases r
    · simp only [cond_false]
      rw [f31_eq]
      simp only [Option.bind_some]
      obtain ⟨e, l1, l2⟩ := l12_eq hD hS k y (f31_l y) (f31_len y) g.1 (g.1.length : Int) (k : Int)
      simp only [nt] at l1
      rw [l1]
      simp only [Option.bind_some]
      rcases l2 with ⟨u, rfl⟩ | ⟨⟨u, rfl⟩, hu⟩
      · exact gd_ke (.inl ⟨(), rfl⟩)
      · simp only [Sum.elim_inr]
        rw [r17_eq']
        simp only [Option.bind_some]
        obtain ⟨r, w1, w2⟩ := r18_eq g y D g.1 (g.1.length : Int) (k : Int)
        rw [w1]
        simp only [Option.bind_some]
        cases r
        · simp only [cond_false]
          have hi := w2 rfl
          obtain ⟨b, v1, v2⟩ := r20_eq hD hS hu hi hI g.1 (g.1.length : Int) (k : Int)
          rw [v1]
          simp only [Option.bind_some]
          cases b
          · exact gd_ki fun j hj => by
              by_cases e : j = k
              · subst e; exact ⟨by rw [hat]; exact hu, by rw [hat]; exact hi, by rw [hat]; exact (q2 rfl).1, by rw [hat]; exact (q2 rfl).2.1, by rw [hat]; exact (q2 rfl).2.2, by rw [hat]; exact v2 rfl⟩
              · exact hI j (by omega)
          · exact gd_ke (.inl ⟨(), rfl⟩)
        · exact gd_ke (.inl ⟨(), rfl⟩)
    · exact gd_ke (.inl ⟨(), rfl⟩)
  · simp only [LD.m, f8_l7, nt, Int.lt_irrefl, decide_false, cond_false]
    exact ⟨_, rfl, .inr ⟨⟨(), rfl⟩, hI⟩⟩
end Go.U
end
section
set_option maxRecDepth 20000
namespace Go.U
open Go
def Off (l:List Bool) (n:Int):Prop:=n<0\/gx l n.toNat false=true
theorem l43_12 (g:TGraph) (a b) (nx:TAlarm) (l:List Bool) (h1:nx.1<(l.length:Int)) (h2:nx.2<(l.length:Int)):∃ e,loopAll (f33_l12.m (a,b,nx,g,l)) (true,0)=some e/\(e=true->Off l nx.1/\Off l nx.2):=by
 refine loopAll_of (step:=f33_l12.m (a,b,nx,g,l)) (t:=(true,0)) (fun t=>t.2=0\/(t.2=1/\(t.1=true->Off l nx.1))\/(t.2=2/\(t.1=true->Off l nx.1/\Off l nx.2))) (fun t=>2-t.2.toNat) (fun e=>e=true->Off l nx.1/\Off l nx.2) (.inl rfl) (by simp) (fun t ht=> ?_);obtain ⟨c,i⟩:=t;simp only at ht;simp only [LD.m,f33_l12];have w0:wi64 ((0:Int)+1)=1:=by decide
 have w1:wi64 ((1:Int)+1)=2:=by decide
 rcases ht with rfl|⟨rfl,q⟩|⟨rfl,q⟩
 · have d1:(0:Int)<2:=by decide
   simp only [d1,decide_true,cond_true,w0];refine .inl ?_;cases c
   · exact ⟨_,rfl,.inr (.inl ⟨rfl,fun h=>by cases h⟩),by simp⟩
   · simp only [cond_true];by_cases hn:nx.1<0
     · simp only [hn,decide_true,cond_true];exact ⟨_,rfl,.inr (.inl ⟨rfl,fun _=> .inl hn⟩),by simp⟩
     · simp only [hn,decide_false,cond_false,inRI (show 0<=nx.1 by omega) h1,ask_true];exact ⟨_,rfl,.inr (.inl ⟨rfl,fun h=> .inr h⟩),by simp⟩
 · have d1:(1:Int)<2:=by decide
   have d2:¬ (1:Int)=0:=by decide
   simp only [d1,d2,decide_true,decide_false,cond_true,cond_false,w1];refine .inl ?_;cases c
   · exact ⟨_,rfl,.inr (.inr ⟨rfl,fun h=>by cases h⟩),by simp⟩
   · simp only [cond_true];by_cases hn:nx.2<0
     · simp only [hn,decide_true,cond_true];exact ⟨_,rfl,.inr (.inr ⟨rfl,fun _=>⟨q rfl,.inl hn⟩⟩),by simp⟩
     · simp only [hn,decide_false,cond_false,inRI (show 0<=nx.2 by omega) h2,ask_true];exact ⟨_,rfl,.inr (.inr ⟨rfl,fun h=>⟨q rfl,.inr h⟩⟩),by simp⟩
 · have d1:¬ (2:Int)<2:=by decide
   simp only [d1,decide_false,cond_false];exact .inr ⟨_,rfl,q⟩
def cf (l:List Bool):Nat:=List.countP (fun b=> !b) l
theorem cf_set {l:List Bool} {i:Nat} (hi:i<l.length) (h:gx l i false=false):cf (l.set i true)<cf l:=by
 unfold cf;rw [List.countP_set hi];have e:l[i]=false:=by
  have:=gx_lt (d:=false) hi;rw [h,List.getElem?_eq_getElem hi] at this;exact Option.some.inj this
 have:0<List.countP (fun b=> !b) l:=List.countP_pos_iff.2 ⟨false,by rw [<- e];exact List.getElem_mem hi,rfl⟩;simp [e];omega
def Gone (g:TGraph) (l:List Bool):Prop:=∃ rk:Nat->Nat,∀ j,gx l j false=true->rk j+cf l<l.length/\((at' g j).1=17\/(at' g j).1=20\/∀ n,(n=(at' g j).2.2.2.2.2.2.1\/n=(at' g j).2.2.2.2.2.2.2)->n<0\/(gx l n.toNat false=true/\rk n.toNat<rk j))
theorem gx_set {α:Type} {l:List α} {i j:Nat} {d x:α} (hi:i<l.length):gx (l.set i x) j d=if i=j then x else gx l j d:=by
 simp only [gx,List.getD_eq_getElem?_getD,List.getElem?_set];split
 · simp [hi]
 · rfl
theorem cf_set' {l:List Bool} {i:Nat} (hi:i<l.length) (h:gx l i false=false):cf (l.set i true)+1=cf l:=by
 unfold cf;rw [List.countP_set hi];have e:l[i]=false:=by
  have:=gx_lt (d:=false) hi;rw [h,List.getElem?_eq_getElem hi] at this;exact Option.some.inj this
 have:0<List.countP (fun b=> !b) l:=List.countP_pos_iff.2 ⟨false,by rw [<- e];exact List.getElem_mem hi,rfl⟩;simp [e];omega
theorem gone_set {g:TGraph} {l:List Bool} {i:Nat} (hi:i<l.length) (h:gx l i false=false) (hG:Gone g l) (hx:(at' g i).1=17\/(at' g i).1=20\/(Off l (at' g i).2.2.2.2.2.2.1/\Off l (at' g i).2.2.2.2.2.2.2)):Gone g (l.set i true):=by
 obtain ⟨rk,hr⟩:=hG;have hc:=cf_set' hi h;have hcl:cf l<=l.length:=List.countP_le_length;have old:∀ {n:Int},gx l n.toNat false=true->gx (l.set i true) n.toNat false=true/\(if n.toNat=i then l.length-cf l else rk n.toNat)=rk n.toNat/\rk n.toNat<l.length-cf l:=fun {n} hn=>by
   have hne:n.toNat≠i:=fun e=>by rw [e,h] at hn;cases hn
   rw [gx_set hi,if_neg (fun e=>hne e.symm),if_neg hne];have:=(hr _ hn).1;exact ⟨hn,rfl,by omega⟩
 refine ⟨fun k=>if k=i then l.length-cf l else rk k,fun j hj=> ?_⟩;simp only [List.length_set];by_cases e:j=i
 · subst e;rw [if_pos rfl];refine ⟨by omega,?_⟩;rcases hx with h1|h1|⟨h1,h2⟩
   · exact .inl h1
   · exact .inr (.inl h1)
   · refine .inr (.inr fun n hn=> ?_);have ho:Off l n:=by rcases hn with rfl|rfl<;>assumption
     rcases ho with ho|ho
     · exact .inl ho
     · obtain ⟨q1,q2,q3⟩:=old ho;exact .inr ⟨q1,by rw [q2];exact q3⟩
 · rw [gx_set hi,if_neg (fun e'=>e e'.symm)] at hj;obtain ⟨p1,p2⟩:=hr j hj;rw [if_neg e];refine ⟨by omega,p2.imp_right fun p2=>p2.imp_right fun p2 n hn=> ?_⟩;rcases p2 n hn with ho|⟨ho,hl⟩
   · exact .inl ho
   · obtain ⟨q1,q2,q3⟩:=old ho;exact .inr ⟨q1,by rw [q2];exact hl⟩
theorem l43_6 (g:TGraph) (hN:g.1.length<=4096) (hx:∀ j,j<g.1.length->(at' g j).2.2.2.2.2.2.1<(g.1.length:Int)/\(at' g j).2.2.2.2.2.2.2<(g.1.length:Int)) (l0:List Bool) (hl0:l0.length=g.1.length) (hG0:Gone g l0):
  ∃ e,loopAll (f33_l6.m g) (false,(wi64 ((nt (List.length g.1))-(1:Int))),l0)=some e/\e.2.length=g.1.length/\Gone g e.2/\cf e.2<=cf l0/\(e.1=true->cf e.2<cf l0):=by
 rw [wi64_of (by simp only [nt];omega) (by simp only [nt];omega)];refine loopAll_of (step:=f33_l6.m g) (fun t=>(∃ n:Nat,n<=g.1.length/\t.2.1=(n:Int)-1)/\t.2.2.length=g.1.length/\Gone g t.2.2/\cf t.2.2<=cf l0/\(t.1=true->cf t.2.2<cf l0)) (fun t=>(t.2.1+1).toNat) (fun e=>e.2.length=g.1.length/\Gone g e.2/\cf e.2<=cf l0/\(e.1=true->cf e.2<cf l0))
  ⟨⟨g.1.length,Nat.le_refl _,rfl⟩,hl0,hG0,Nat.le_refl _,fun h=>by cases h⟩ (by simp only [nt];omega) (fun t ⟨⟨n,hn,ht⟩,hl,hG,hc,hs⟩=> ?_)
 obtain ⟨c,i,l⟩:=t;simp only at ht hl hG hc hs;subst ht;simp only [LD.m,f33_l6];cases n with
 |zero=>
  have d:¬ (0:Int)<=((0:Nat):Int)-1:=by decide
  simp only [d,decide_false,cond_false];exact .inr ⟨_,rfl,hl,hG,hc,hs⟩
 |succ n=>
  have d:(0:Int)<=((n+1:Nat):Int)-1:=by omega
  have e:((n+1:Nat):Int)-1=(n:Int):=by omega
  have hnl:n<l.length:=by omega
  have hng:n<g.1.length:=by omega
  have w:wi64 ((n:Int)-1)=(n:Int)-1:=wi64_of (by omega) (by omega);simp only [d,decide_true,cond_true];rw [e];simp only [inR hnl,inR hng,ask_true,Int.toNat_natCast,w];refine .inl ?_;cases hg:gx l n false
  · have hm:=cf_set hnl hg;have mark:((at' g n).1=17\/(at' g n).1=20\/(Off l (at' g n).2.2.2.2.2.2.1/\Off l (at' g n).2.2.2.2.2.2.2))->∃ t',some (Sum.inl (true,((n:Int)-1,l.set n true)))=some (Sum.inl t':(Bool×Int×List Bool) ⊕ (Bool×List Bool))/\((∃ m:Nat,m<=g.1.length/\t'.2.1=(m:Int)-1)/\t'.2.2.length=g.1.length/\Gone g t'.2.2/\cf t'.2.2<=cf l0/\(t'.1=true->cf t'.2.2<cf l0))/\(t'.2.1+1).toNat<((n:Int)+1).toNat:=fun ho=>
      ⟨_,rfl,⟨⟨n,by omega,rfl⟩,by simpa using hl,gone_set hnl hg hG ho,by simp only;omega,fun _=>by simp only;omega⟩,by simp only;omega⟩
    have stay:∃ t',some (Sum.inl (c,((n:Int)-1,l)))=some (Sum.inl t':(Bool×Int×List Bool) ⊕ (Bool×List Bool))/\((∃ m:Nat,m<=g.1.length/\t'.2.1=(m:Int)-1)/\t'.2.2.length=g.1.length/\Gone g t'.2.2/\cf t'.2.2<=cf l0/\(t'.1=true->cf t'.2.2<cf l0))/\(t'.2.1+1).toNat<((n:Int)+1).toNat:=
      ⟨_,rfl,⟨⟨n,by omega,rfl⟩,hl,hG,hc,hs⟩,by simp only;omega⟩
    simp only [cond_false];cases h17:(decide ((gx g.1 n dInstr).1=(17:Int)))
    · simp only [Bool.not_false,cond_true];cases h20:(decide ((gx g.1 n dInstr).1=(20:Int)))
      · simp only [Bool.not_false,cond_true];obtain ⟨x1,x2⟩:=hx n hng;obtain ⟨r,hr,hr2⟩:=l43_12 g c (n:Int) (gx g.1 n dInstr).2.2.2.2.2.2 l (by rw [hl];exact x1) (by rw [hl];exact x2);rw [hr];simp only [Option.bind_some];cases r
        · exact stay
        · exact mark (.inr (.inr (hr2 rfl)))
      · exact mark (.inr (.inl (of_decide_eq_true h20)))
    · exact mark (.inl (of_decide_eq_true h17))
  · simp only [cond_true];exact ⟨_,rfl,⟨⟨n,by omega,rfl⟩,hl,hG,hc,hs⟩,by simp only;omega⟩
theorem nfit {n:Nat} (h:n<=4096):(decide (0<=(n:Int))&&decide ((n:Int)<=(n:Int))&&decide (1 * (n:Int)<=70368744177664)&&decide ((n:Int)<9223372036854775808))=true:=by
 have h1:(0:Int)<=n:=by omega
 have h2:1 * (n:Int)<=70368744177664:=by omega
 have h3:(n:Int)<9223372036854775808:=by omega
 rw [decide_eq_true h1,decide_eq_true (Int.le_refl _),decide_eq_true h2,decide_eq_true h3];rfl
def Ranked (g:TGraph) (rk:Nat->Nat):Prop:=∀ j,j<g.1.length->rk j<g.1.length/\((at' g j).1=17\/(at' g j).1=20\/∀ n,(n=(at' g j).2.2.2.2.2.2.1\/n=(at' g j).2.2.2.2.2.2.2)->n<0\/rk n.toNat<rk j)
theorem f33_eq (g:TGraph) (hN:g.1.length<=4096) (hx:∀ j,j<g.1.length->(at' g j).2.2.2.2.2.2.1<(g.1.length:Int)/\(at' g j).2.2.2.2.2.2.2<(g.1.length:Int)):∃ r,f33_m g=some r/\(r=true->∃ rk,Ranked g rk):=by
 unfold f33_m f33_c;have b1:(decide (0<=(nt (List.length g.1)))&&decide ((nt (List.length g.1))<=(nt (List.length g.1)))&&decide (1 * (nt (List.length g.1))<=70368744177664)&&decide ((nt (List.length g.1))<9223372036854775808))=true:=nfit hN;rw [b1,ask_true];have hG0:Gone g (List.replicate (Int.toNat (nt (List.length g.1))) false):=⟨fun _=>0,fun j hj=>by
   simp only [gx,List.getD_eq_getElem?_getD,List.getElem?_replicate] at hj;split at hj<;>simp at hj⟩
 obtain ⟨e,h1,h2,h2g⟩:=loopAll_of (step:=f33_l3.m g) (t:=(true,List.replicate (Int.toNat (nt (List.length g.1))) false)) (fun t=>t.2.length=g.1.length/\Gone g t.2) (fun t=>2 * cf t.2+cond t.1 1 0) (fun e=>e.length=g.1.length/\Gone g e) ⟨by simp [nt],hG0⟩ (by
     have:cf (List.replicate (Int.toNat (nt (List.length g.1))) false)<=4096:=Nat.le_trans List.countP_le_length (by simp [nt];exact hN);simp only [cond_true];omega) (fun t ⟨ht,htG⟩=>by
   obtain ⟨c,l⟩:=t;simp only at ht htG;simp only [LD.m,f33_l3];cases c
   · exact .inr ⟨_,rfl,ht,htG⟩
   · obtain ⟨e,q1,q2,q2g,q3,q4⟩:=l43_6 g hN hx l ht htG;have q1':loopAll (LD.m f33_l6 g) (false,(wi64 ((nt (List.length g.1))-(1:Int))),l)=some e:=q1;simp only [cond_true];refine .inl ⟨(e.1,e.2),?_,⟨q2,q2g⟩,?_⟩
     · rw [q1'];rfl
     · cases hb:e.1
       · simp only [cond_false,cond_true];omega
       · simp only [cond_true];have:=q4 hb;omega)
 rw [h1];simp only [Option.bind_some];obtain ⟨e2,h3,h4⟩:=each_tot2 (n:=e.length) (step:=f33_l20.m ((nt (List.length e)),e)) (by omega) (fun k=>∀ i,i<k->gx e i false=true) (fun q=>(∃ u,q= .inl u)\/(∃ u,q= .inr u)/\∀ i,i<e.length->gx e i false=true) (fun i h=>absurd h (Nat.not_lt_zero _)) (fun i hi hI=>by
   have h':(i:Int)<(e.length:Int):=by omega
   simp only [LD.m,f33_l20,nt,h',decide_true,cond_true,inR hi,ask_true,Int.toNat_natCast];refine gd_cond (fun _=>gd_ke (.inl ⟨(),rfl⟩)) (fun c=>gd_ki fun j hj=> ?_);by_cases ej:j=i
   · subst ej;simpa using c
   · exact hI j (by omega)) (fun hI=>by
   simp only [LD.m,f33_l20,nt,Int.lt_irrefl,decide_false,cond_false];exact ⟨_,rfl,.inr ⟨⟨(),rfl⟩,hI⟩⟩)
 rw [h3];simp only [Option.bind_some];rcases h4 with ⟨u,rfl⟩|⟨⟨u,rfl⟩,hall⟩
 · exact ⟨false,rfl,fun h=>by cases h⟩
 · refine ⟨true,rfl,fun _=> ?_⟩;obtain ⟨rk,hr⟩:=h2g;refine ⟨rk,fun j hj=> ?_⟩;obtain ⟨p1,p2⟩:=hr j (hall j (by omega));exact ⟨by omega,p2.imp_right fun p2=>p2.imp_right fun p2 n hn=>(p2 n hn).imp_right And.right⟩
structure FitG (g:TGraph) (D:List Int):Prop where
 N1:0<g.1.length
 N:g.1.length<=4096
 S:(scs g).length<=64
 A:(inps g).length<=16
 I:Inits g
 defs:DefsOK g D
 good:∀ j,j<g.1.length->Good g D j
 rank:∃ rk,Ranked g rk
theorem f8_eq {g:TGraph} (h:Lens g):∃ r,f8_m g=some r/\(r=true->∃ D,FitG g D):=by
 unfold f8_m f8_c;have no:∃ r,some false=some r/\(r=true->∃ D,FitG g D):=⟨false,rfl,fun h=>by cases h⟩;obtain ⟨b,hb,hb2⟩:Fn ((0<g.1.length/\g.1.length<=4096)/\(scs g).length<=64/\(inps g).length<=16/\Inits g) (f8_r1.m g):=by
   simp only [PD.m,f8_r1,nt];refine fn_cond (fun _=>fn_true) fun k1=>fn_cond (fun _=>fn_true) fun k2=>fn_cond (fun _=>fn_true) fun k3=>fn_cond (fun _=>fn_true) fun k4=> ?_
   have k3:=of_decide_eq_false k3;have k4:=of_decide_eq_false k4;have k2:=of_decide_eq_false k2;have k1:=of_decide_eq_false k1;rw [inRI (by omega) (by omega),ask_true];refine fn_cond (fun _=>fn_true) fun _=> ?_
   obtain ⟨r,q1,q2⟩:=f27_eq h;rw [q1];exact fn_some fun hr=>⟨⟨by omega,by omega⟩,q2 (by simpa using hr)⟩
 rw [hb];simp only [Option.bind_some];cases b
 · obtain ⟨⟨hN1,hN⟩,hS,hA,hI⟩:=hb2 rfl;simp only [cond_false];obtain ⟨r,d1,d2⟩:=f28_eq g hN hS h.A;rw [d1];simp only [Option.bind_some];cases hr:r.2
   · exact no
   · have hD:=d2 hr;simp only [Bool.not_true,cond_false];obtain ⟨e,l1,l2⟩:=l7_eq hN hD hS;rw [l1];simp only [Option.bind_some];rcases l2 with ⟨u,rfl⟩|⟨⟨u,rfl⟩,hG⟩
     · exact no
     · simp only [Sum.elim_inr];obtain ⟨r,hr,hk⟩:=f33_eq g hN fun j hj=>(hG j hj).nx
       rw [hr];exact ⟨r,rfl,fun h=>⟨_,hN1,hN,hS,hA,hI,hD,hG,hk h⟩⟩
 · exact no
end Go.U
end
