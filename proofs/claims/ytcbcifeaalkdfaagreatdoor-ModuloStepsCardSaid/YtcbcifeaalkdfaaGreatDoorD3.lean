/- What these Lean functions compute: plain arithmetic of congruences, the checks of a graph, the values of its registers. -/
import Derived.Test.YtcbcifeaalkdfaaGreatDoorD2
import Derived.Test.YtcbcifeaalkdfaaGreatDoorB4
set_option linter.unusedVariables false
set_option linter.unusedSimpArgs false
set_option linter.unusedSectionVars false
section
set_option maxRecDepth 20000
namespace Go.U
open Go
theorem cond_some {α:Type} {b:Bool} {x y:Option α} (hx:∃ r,x=some r) (hy:∃ r,y=some r):∃ r,cond b x y=some r:=by cases b<;>assumption
theorem bind_tot {α β:Type} {x:Option α} {f:α->Option β} (hx:∃ r,x=some r) (hf:∀ a,x=some a->∃ r,f a=some r):∃ r,x.bind f=some r:=by
 obtain ⟨a,h⟩:=hx;rw [h];exact hf a h
theorem some_tot {α:Type} (a:α):∃ r,some a=some r:=⟨a,rfl⟩
theorem f77_tot (a):∃ r,f77_m a=some r:=by unfold f77_m f77_c;exact cond_some (some_tot _) (some_tot _)
theorem f78_tot (a):∃ r,f78_m a=some r:=by unfold f78_m f78_c;exact cond_some (some_tot _) (cond_some (some_tot _) (some_tot _))
theorem f79_tot (a):∃ r,f79_m a=some r:=by unfold f79_m f79_c;exact bind_tot (f78_tot _) fun _ _=>some_tot _
theorem each_tot {E:Type} {L:Type} {n:Nat} {step:Int->Option (Int ⊕ E)} (hn:n<=9223372036854775807) (I:Nat->Prop) (Q:E->Prop) (h0:I 0)
   (hs:∀ i:Nat,i<n->I i->(step (i:Int)=some (.inl (wi64 ((i:Int)+1)))/\I (i+1))\/∃ e,step (i:Int)=some (.inr e)/\Q e)
   (he:I n->∃ e,step (n:Int)=some (.inr e)/\Q e):∃ e,loopAll step 0=some e/\Q e:=by
 refine loopAll_of (fun t=>∃ i:Nat,i<=n/\t=(i:Int)/\I i) (fun t=>n-t.toNat) Q ⟨0,Nat.zero_le _,rfl,h0⟩ (by simp;omega) (fun t ⟨i,hi,ht,hI⟩=> ?_);subst ht;by_cases h:i<n
 · rcases hs i h hI with ⟨h1,h2⟩|h1
   · rw [wi64_of (by omega) (by omega)] at h1;exact .inl ⟨_,h1,⟨i+1,h,rfl,h2⟩,by omega⟩
   · exact .inr h1
 · have:i=n:=by omega
   subst this;exact .inr (he hI)
def Gd {E:Type} (i:Int) (I':Prop) (Q:E->Prop) (x:Option (Int ⊕ E)):Prop:=(x=some (.inl (wi64 (i+1)))/\I')\/∃ e,x=some (.inr e)/\Q e
section
variable {E:Type} {i:Int} {I':Prop} {Q:E->Prop}
theorem gd_cond {b:Bool} {x y:Option (Int ⊕ E)} (hx:b=true->Gd i I' Q x) (hy:b=false->Gd i I' Q y):Gd i I' Q (cond b x y):=by
 cases b
 · exact hy rfl
 · exact hx rfl
theorem gd_bind {α:Type} {x:Option α} {f:α->Option (Int ⊕ E)} (hx:∃ r,x=some r) (hf:∀ a,x=some a->Gd i I' Q (f a)):Gd i I' Q (x.bind f):=by
 obtain ⟨a,h⟩:=hx;rw [h];exact hf a h
theorem gd_ki (h:I'):Gd i I' Q (some (.inl (wi64 (i+1)))):= .inl ⟨rfl,h⟩
theorem gd_ke {e:E} (h:Q e):Gd i I' Q (some (.inr e)):= .inr ⟨e,rfl,h⟩
end
theorem each_tot2 {E:Type} {n:Nat} {step:Int->Option (Int ⊕ E)} (hn:n<=9223372036854775807) (I:Nat->Prop) (Q:E->Prop) (h0:I 0)
 (hs:∀ i:Nat,i<n->I i->Gd (i:Int) (I (i+1)) Q (step (i:Int)))
 (he:I n->∃ e,step (n:Int)=some (.inr e)/\Q e):∃ e,loopAll step 0=some e/\Q e:=each_tot (L:=Unit) hn I Q h0 hs he
theorem f37l4_tot (p:(List TItv)×Int×TGraph) (h:p.2.1=nt p.1.length) (hn:p.1.length<=9223372036854775807):∃ e,loopAll (f37_l4.m p) 0=some e:=by
 obtain ⟨e,h1,_⟩:=each_tot2 (n:=p.1.length) (step:=f37_l4.m p) hn (fun _=>True) (fun _=>True) trivial (fun i hi _=>by
  have h':(i:Int)<(p.1.length:Int):=by omega
  simp only [LD.m,f37_l4,h,nt,h',decide_true,cond_true,inR hi,ask_true]
  repeat (first|exact gd_ke trivial|exact gd_ki trivial|(refine gd_cond (fun _=> ?_) (fun _=> ?_)))) (fun _=>by
  simp only [LD.m,f37_l4,h,nt,Int.lt_irrefl,decide_false,cond_false];exact ⟨_,rfl,trivial⟩)
 exact ⟨e,h1⟩
theorem f37l10_tot (p:(List TArray)×Int×TGraph) (h:p.2.1=nt p.1.length) (hn:p.1.length<=9223372036854775807):∃ e,loopAll (f37_l10.m p) 0=some e:=by
 obtain ⟨e,h1,_⟩:=each_tot2 (n:=p.1.length) (step:=f37_l10.m p) hn (fun _=>True) (fun _=>True) trivial (fun i hi _=>by
  have h':(i:Int)<(p.1.length:Int):=by omega
  simp only [LD.m,f37_l10,h,nt,h',decide_true,cond_true,inR hi,ask_true]
  repeat (first|exact gd_ke trivial|exact gd_ki trivial|(refine gd_cond (fun _=> ?_) (fun _=> ?_))|(refine gd_bind (f77_tot _) fun _ _=> ?_)|(refine gd_bind (f78_tot _) fun _ _=> ?_)|(refine gd_bind (f79_tot _) fun _ _=> ?_))) (fun _=>by
  simp only [LD.m,f37_l10,h,nt,Int.lt_irrefl,decide_false,cond_false];exact ⟨_,rfl,trivial⟩)
 exact ⟨e,h1⟩
theorem f78_in (a):∃ r,f78_m a=some r/\ -2147483648<=r/\r<= -128:=by
 unfold f78_m f78_c;cases decide (a=(1:Int))
 · cases decide (a=(2:Int))
   · exact ⟨_,rfl,by decide,by decide⟩
   · exact ⟨_,rfl,by decide,by decide⟩
 · exact ⟨_,rfl,by decide,by decide⟩
theorem f79_in (a):∃ r,f79_m a=some r/\r<=2147483647:=by
 obtain ⟨r,h1,h2,h3⟩:=f78_in a;unfold f79_m f79_c;rw [h1];refine ⟨_,rfl,?_⟩;rw [wi64_of (n:=0-r) (by omega) (by omega),wi64_of (by omega) (by omega)];omega
def InI (x:Int):Prop:= -2147483648<=x/\x<=2147483647
theorem f37l16_ok (p:(List TScalar)×Int×TGraph) (h:p.2.1=nt p.1.length) (hn:p.1.length<=9223372036854775807):∃ e,loopAll (f37_l16.m p) 0=some e/\((∃ u,e= .inl u)\/(∃ u,e= .inr u)/\∀ j,j<p.1.length->InI (gx p.1 j dScalar).2.2):=
 each_tot2 (n:=p.1.length) (step:=f37_l16.m p) hn (fun k=>∀ j,j<k->InI (gx p.1 j dScalar).2.2) _ (fun j h=>absurd h (Nat.not_lt_zero _)) (fun i hi hI=>by
  have h':(i:Int)<(p.1.length:Int):=by omega
  simp only [LD.m,f37_l16,h,nt,h',decide_true,cond_true,inR hi,ask_true,Int.toNat_natCast];refine gd_bind (f77_tot _) fun _ _=>gd_cond (fun _=>gd_ke (.inl ⟨(),rfl⟩)) fun _=> ?_
  obtain ⟨r,r1,r2,_⟩:=f78_in (gx p.1 i dScalar).2.1;obtain ⟨t,t1,t2⟩:=f79_in (gx p.1 i dScalar).2.1;rw [r1,t1];refine gd_cond (fun _=>gd_ke (.inl ⟨(),rfl⟩)) fun c1=>gd_cond (fun _=>gd_ke (.inl ⟨(),rfl⟩)) fun c2=>gd_ki fun j hj=> ?_
  have c1:=of_decide_eq_false c1;have c2:=of_decide_eq_false c2;by_cases e:j=i
  · subst e;exact ⟨by omega,by omega⟩
  · exact hI j (by omega)) (fun hI=>by
  simp only [LD.m,f37_l16,h,nt,Int.lt_irrefl,decide_false,cond_false];exact ⟨_,rfl,.inr ⟨⟨(),rfl⟩,hI⟩⟩)
theorem f37l22_ok (p:(List TArray)×Int) (h:p.2=nt p.1.length) (hn:p.1.length<=9223372036854775807):∃ e,loopAll (f37_l22.m p) 0=some e/\((∃ u,e= .inl u)\/(∃ u,e= .inr u)/\∀ j,j<p.1.length->InI (gx p.1 j dArray).2.2.2):=
 each_tot2 (n:=p.1.length) (step:=f37_l22.m p) hn (fun k=>∀ j,j<k->InI (gx p.1 j dArray).2.2.2) _ (fun j h=>absurd h (Nat.not_lt_zero _)) (fun i hi hI=>by
  have h':(i:Int)<(p.1.length:Int):=by omega
  simp only [LD.m,f37_l22,h,nt,h',decide_true,cond_true,inR hi,ask_true,Int.toNat_natCast];refine gd_bind (f77_tot _) fun _ _=>gd_cond (fun _=>gd_ke (.inl ⟨(),rfl⟩)) fun _=> ?_
  obtain ⟨r,r1,r2,_⟩:=f78_in (gx p.1 i dArray).2.1;obtain ⟨t,t1,t2⟩:=f79_in (gx p.1 i dArray).2.1;rw [r1,t1];refine gd_cond (fun _=>gd_ke (.inl ⟨(),rfl⟩)) fun c1=>gd_cond (fun _=>gd_ke (.inl ⟨(),rfl⟩)) fun c2=>gd_cond (fun _=>gd_ke (.inl ⟨(),rfl⟩)) fun _=>gd_cond (fun _=>gd_ke (.inl ⟨(),rfl⟩)) fun _=>gd_ki fun j hj=> ?_
  have c1:=of_decide_eq_false c1;have c2:=of_decide_eq_false c2;by_cases e:j=i
  · subst e;exact ⟨by omega,by omega⟩
  · exact hI j (by omega)) (fun hI=>by
  simp only [LD.m,f37_l22,h,nt,Int.lt_irrefl,decide_false,cond_false];exact ⟨_,rfl,.inr ⟨⟨(),rfl⟩,hI⟩⟩)
abbrev arrs (g:TGraph):List TArray:=g.2.2.2.2.1
abbrev inps (g:TGraph):List TArray:=g.2.2.2.2.2.2.1
abbrev lns (g:TGraph):List TItv:=g.2.2.2.2.2.2.2
structure Lens (g:TGraph):Prop where
 i:g.1.length<=9223372036854775807
 s:(scs g).length<=9223372036854775807
 a:(arrs g).length<=9223372036854775807
 n:(inps g).length<=9223372036854775807
 l:(lns g).length<=9223372036854775807
 A:∀ j,j<g.1.length-> -9223372036854775808<=(at' g j).2.1/\(at' g j).2.1<=9223372036854775807
structure Inits (g:TGraph):Prop where
 s:∀ j,j<(scs g).length->InI (gx (scs g) j dScalar).2.2
 a:∀ j,j<(inps g).length->InI (gx (inps g) j dArray).2.2.2
def Tp (P:Prop) (x:Option Bool):Prop:=∃ r,x=some r/\(r=true->P)
theorem tp_cond {P:Prop} {b:Bool} {x y:Option Bool} (hx:Tp P x) (hy:Tp P y):Tp P (cond b x y):=by
 cases b
 · exact hy
 · exact hx
theorem tp_false {P:Prop}:Tp P (some false):=⟨false,rfl,fun h=>by cases h⟩
theorem f37_eq {g:TGraph} (h:Lens g):∃ r,f37_m g=some r/\(r=true->(scs g).length<=64/\(inps g).length<=16/\Inits g):=by
 unfold f37_m f37_c;by_cases h1:(32:Int)<nt (List.length g.2.2.2.2.1)
 · simp only [h1,decide_true,cond_true];exact ⟨false,rfl,fun h=>by cases h⟩
 · by_cases h2:(64:Int)<nt (List.length g.2.2.2.2.2.1)
   · simp only [h1,h2,decide_true,decide_false,cond_true,cond_false];exact ⟨false,rfl,fun h=>by cases h⟩
   · have h3:(scs g).length<=64:=by simp only [nt] at h2;show List.length g.2.2.2.2.2.1<=64;omega
     by_cases h6:(16:Int)<nt (List.length g.2.2.2.2.2.2.1)
     · simp only [h1,h2,h6,decide_true,decide_false,cond_true,cond_false];exact ⟨false,rfl,fun h=>by cases h⟩
     have h7:(inps g).length<=16:=by simp only [nt] at h6;show List.length g.2.2.2.2.2.2.1<=16;omega
     simp only [h1,h2,h6,decide_false,cond_false]
     suffices h:Tp (Inits g) _ by
       obtain ⟨r,q1,q2⟩:=h;exact ⟨r,q1,fun hr=>⟨h3,h7,q2 hr⟩⟩
     refine tp_cond tp_false (tp_cond tp_false ?_);by_cases h4:(nt (List.length g.2.2.2.2.2.2.2))<(1:Int)
     · simp only [h4,decide_true,cond_true];exact tp_false
     · have h5:V.inRange 0 (List.length g.2.2.2.2.2.2.2)=true:=inRI (by decide) (by simp only [nt] at h4;omega);simp only [h4,decide_false,cond_false,h5,ask_true];obtain ⟨e1,l1⟩:=f37l4_tot (g.2.2.2.2.2.2.2,nt g.2.2.2.2.2.2.2.length,g) rfl h.l;rw [l1];refine tp_cond tp_false ?_;simp only [Option.bind_some];cases e1
       · exact tp_false
       · obtain ⟨e2,l2⟩:=f37l10_tot (g.2.2.2.2.1,nt g.2.2.2.2.1.length,g) rfl h.a;simp only [Sum.elim_inr];rw [l2];simp only [Option.bind_some];cases e2
         · exact tp_false
         · obtain ⟨e3,l3,m3⟩:=f37l16_ok (g.2.2.2.2.2.1,nt g.2.2.2.2.2.1.length,g) rfl h.s;simp only [Sum.elim_inr];rw [l3];simp only [Option.bind_some];rcases m3 with ⟨u,rfl⟩|⟨⟨u,rfl⟩,i3⟩
           · exact tp_false
           · obtain ⟨e4,l4,m4⟩:=f37l22_ok (g.2.2.2.2.2.2.1,nt g.2.2.2.2.2.2.1.length) rfl h.n;simp only [Sum.elim_inr];rw [l4];simp only [Option.bind_some];rcases m4 with ⟨u,rfl⟩|⟨⟨u,rfl⟩,i4⟩
             · exact tp_false
             · exact ⟨true,rfl,fun _=>⟨i3,i4⟩⟩
end Go.U
end
section
set_option maxRecDepth 20000
namespace Go.U
open Go
theorem f39r1_tot (p):∃ r,f39_r1.m p=some r:=by
 simp only [PD.m,f39_r1]
 repeat (first|exact some_tot _|(refine cond_some ?_ ?_))
theorem f39r2_tot (p):∃ r,f39_r2.m p=some r:=by
 simp only [PD.m,f39_r2]
 repeat (first|exact some_tot _|(refine cond_some ?_ ?_))
theorem f39r3_tot (p):∃ r,f39_r3.m p=some r:=by
 simp only [PD.m,f39_r3]
 repeat (first|exact some_tot _|(refine cond_some ?_ ?_))
theorem f39r4_tot (p):∃ r,f39_r4.m p=some r:=by
 simp only [PD.m,f39_r4]
 repeat (first|exact some_tot _|(refine cond_some ?_ ?_))
theorem f39r5_tot (p):∃ r,f39_r5.m p=some r:=by
 simp only [PD.m,f39_r5]
 repeat (first|exact some_tot _|(refine cond_some ?_ ?_))
theorem f39_tot (a):∃ r,f39_m a=some r:=by
 unfold f39_m f39_c;exact bind_tot (f39r1_tot _) fun _ _=>bind_tot (f39r2_tot _) fun _ _=>bind_tot (f39r3_tot _) fun _ _=>bind_tot (f39r4_tot _) fun _ _=>bind_tot (f39r5_tot _) fun _ _=>some_tot _
theorem f80_eq (a b:Int):f80_m (a,b)=some (decide (0<=a)&&decide (a<b)):=by
 unfold f80_m f80_c;simp only;by_cases h:0<=a<;>simp [h]
theorem f40_eq (x:TInstr) (n:Int) (hn:0<=n):∃ r,f40_m (x,n)=some r/\(r=true->x.2.2.2.2.2.2.1<n/\x.2.2.2.2.2.2.2<n):=by
 unfold f40_m f40_c;simp only [f80_eq,Option.bind_some];by_cases h1:x.1=15
 · simp only [h1,decide_true,cond_true];cases hb:(decide (0<=x.2.2.2.2.2.2.1)&&decide (x.2.2.2.2.2.2.1<n))
   · exact ⟨false,rfl,fun h=>by cases h⟩
   · simp at hb;exact ⟨_,rfl,fun h=>by simp at h;exact ⟨hb.2,h.2⟩⟩
 · simp only [h1,decide_false,cond_false];by_cases h2:x.1=21
   · simp only [h2,decide_true,cond_true];by_cases h3:x.2.2.2.2.2.2.1= -1
     · simp only [h3,decide_true,cond_true];exact ⟨_,rfl,fun h=>by simp at h;omega⟩
     · simp only [h3,decide_false,cond_false];exact ⟨false,rfl,fun h=>by cases h⟩
   · simp only [h2,decide_false,cond_false];cases hb:(decide (0<=x.2.2.2.2.2.2.1)&&decide (x.2.2.2.2.2.2.1<n))
     · exact ⟨false,rfl,fun h=>by cases h⟩
     · simp at hb;exact ⟨_,rfl,fun h=>by simp at h;omega⟩
def f41_l (a:TInstr):List Int:=
 cond (decide (a.1=2)) [a.2.2.1] (cond (decide (a.1=3)) [a.2.2.1] (cond (decide (a.1=13)) [a.2.2.1] (cond (decide (a.1=4)) [a.2.2.1,a.2.2.2.1] (cond (decide (a.1=5)) [a.2.2.1,a.2.2.2.1] (cond (decide (a.1=6)) [a.2.2.1,a.2.2.2.1]
 (cond (decide (a.1=7)) [a.2.2.1,a.2.2.2.1] (cond (decide (a.1=8)) [a.2.2.1,a.2.2.2.1] (cond (decide (a.1=9)) [a.2.2.1,a.2.2.2.1] (cond (decide (a.1=10)) [a.2.2.1,a.2.2.2.1] (cond (decide (a.1=15)) [a.2.2.1,a.2.2.2.1] (cond (decide (a.1=11)) [a.2.2.2.1] (cond (decide (a.1=14)) [a.2.1,a.2.2.2.1] []))))))))))))
theorem cond_some_out {α:Type} {b:Bool} {x y:α}:cond b (some x) (some y)=some (cond b x y):=by cases b<;>rfl
theorem f41_eq (a:TInstr):f41_m a=some (f41_l a):=by
 unfold f41_m f41_c f41_l;simp only [cond_some_out]
theorem cond_len {b:Bool} {l m:List Int} (h1:l.length<=2) (h2:m.length<=2):(cond b l m).length<=2:=by cases b<;>assumption
theorem f41_len (a:TInstr):(f41_l a).length<=2:=by
 unfold f41_l
 repeat (first|exact (show (0:Nat)<=2 by decide)|exact (show (1:Nat)<=2 by decide)|exact (show (2:Nat)<=2 by decide)|refine cond_len ?_ ?_)
def Use (g:TGraph) (D:List Int) (i:Nat) (x:Int):Prop:=0<=x/\x<g.2.2.1/\(((scs g).length:Int)<=x->gx D (x-((scs g).length:Int)).toNat 0<(i:Int))
theorem r14_eq {g:TGraph} {D:List Int} (hD:DefsOK g D) (hS:(scs g).length<=64) (i:Nat) (x:Int) (a b c e f j) (y:TInstr):∃ r,f10_r14.m (D,(i:Int),x,a,b,c,e,f,j,(g,y))=some r/\(r=false->Use g D i x):=by
 simp only [PD.m,f10_r14,nt];by_cases h1:x<0
 · simp only [h1,decide_true,cond_true];exact ⟨true,rfl,fun h=>by cases h⟩
 · by_cases h2:g.2.2.1<=x
   · simp only [h1,h2,decide_true,decide_false,cond_true,cond_false];exact ⟨true,rfl,fun h=>by cases h⟩
   · simp only [h1,h2,decide_false,cond_false];have hr:=hD.regs;have hl:=hD.len;by_cases h3:((scs g).length:Int)<=x
     · have h3':(List.length g.2.2.2.2.2.1:Int)<=x:=h3;simp only [h3',decide_true,cond_true];have w:wi64 (x-(List.length g.2.2.2.2.2.1:Int))=x-((scs g).length:Int):=wi64_of (by show _<=x-((scs g).length:Int);omega) (by show x-((scs g).length:Int)<=_;omega);simp only [w,inRI (show 0<=x-((scs g).length:Int) by omega) (show x-((scs g).length:Int)<(D.length:Int) by omega),ask_true];exact ⟨_,rfl,fun h=>⟨by omega,by omega,fun _=>by simpa using h⟩⟩
     · have h3':¬ (List.length g.2.2.2.2.2.1:Int)<=x:=h3;simp only [h3',decide_false,cond_false];exact ⟨false,rfl,fun _=>⟨by omega,by omega,fun h=>absurd h h3⟩⟩
theorem l12_eq {g:TGraph} {D:List Int} (hD:DefsOK g D) (hS:(scs g).length<=64) (i:Nat) (y:TInstr) (l:List Int) (hl:l.length<=2) (a b c):
   ∃ e,loopAll (f10_l12.m (D,(i:Int),a,b,c,l,nt l.length,g,y)) 0=some e/\((∃ u,e= .inl u)\/(∃ u,e= .inr u)/\∀ x∈l,Use g D i x):=by
 refine each_tot2 (n:=l.length) (step:=f10_l12.m (D,(i:Int),a,b,c,l,nt l.length,g,y)) (by omega) (fun k=>∀ j,j<k->Use g D i (gx l j 0)) (fun e=>(∃ u,e= .inl u)\/(∃ u,e= .inr u)/\∀ x∈l,Use g D i x) (fun j h=>absurd h (Nat.not_lt_zero _)) (fun k hk hI=> ?_) (fun hI=> ?_)
 · have h':(k:Int)<(l.length:Int):=by omega
   simp only [LD.m,f10_l12,nt,h',decide_true,cond_true,inR hk,ask_true,Int.toNat_natCast];obtain ⟨r,h1,h2⟩:=r14_eq hD hS i (gx l k 0) a b c l (nt l.length) (k:Int) y;simp only [nt] at h1;rw [h1];simp only [Option.bind_some];cases r
   · exact gd_ki fun j hj=>by
      by_cases e:j=k
      · subst e;exact h2 rfl
      · exact hI j (by omega)
   · exact gd_ke (.inl ⟨(),rfl⟩)
 · simp only [LD.m,f10_l12,nt,Int.lt_irrefl,decide_false,cond_false];exact ⟨_,rfl,.inr ⟨⟨(),rfl⟩,fun x hx=>by
     obtain ⟨j,hj⟩:=List.mem_iff_getElem?.1 hx;have hlt:j<l.length:=by rcases Nat.lt_or_ge j l.length with h|h;exact h;rw [List.getElem?_eq_none h] at hj;cases hj
     have:=hI j hlt;rw [gx_of hj] at this;exact this⟩⟩
end Go.U
end
section
set_option maxRecDepth 20000
namespace Go.U
open Go
def Fn (P:Prop) (x:Option Bool):Prop:=∃ r,x=some r/\(r=false->P)
theorem fn_cond {P:Prop} {b:Bool} {x y:Option Bool} (hx:b=true->Fn P x) (hy:b=false->Fn P y):Fn P (cond b x y):=by
 cases b
 · exact hy rfl
 · exact hx rfl
theorem fn_true {P:Prop}:Fn P (some true):=⟨true,rfl,fun h=>by cases h⟩
theorem fn_some {P:Prop} {b:Bool} (h:b=false->P):Fn P (some b):=⟨b,rfl,h⟩
theorem fn_bind {α:Type} {P:Prop} {x:Option α} {f:α->Option Bool} (hx:∃ r,x=some r) (hf:∀ a,x=some a->Fn P (f a)):Fn P (x.bind f):=by
 obtain ⟨a,h⟩:=hx;rw [h];exact hf a h
structure Idx (g:TGraph) (y:TInstr):Prop where
 k11:y.1=11\/y.1=14->0<=y.2.2.1/\y.2.2.1<((inps g).length:Int)
 k12:y.1=12->0<=y.2.2.1/\y.2.2.1<((arrs g).length:Int)
 k13:y.1=13->0<=y.2.1/\y.2.1<((scs g).length:Int)
theorem r17_eq' (p):f10_r17.m p=some (decide (p.2.2.2.2.2.1=(11:Int))||decide (p.2.2.2.2.2.1=(14:Int))):=by
 simp only [PD.m,f10_r17];cases decide (p.2.2.2.2.2.1=(11:Int))<;>rfl
theorem r18_eq (g:TGraph) (y:TInstr) (D l n t):Fn (Idx g y) (f10_r18.m (D,(decide (y.1=(11:Int))||decide (y.1=(14:Int))),l,n,t,g,y)):=by
 simp only [PD.m,f10_r18,nt]
 repeat' (first|exact fn_true|(refine fn_some fun h=> ?_)|(refine fn_cond (fun h=> ?_) (fun h=> ?_)))
 all_goals
  rename_i h1;refine ⟨fun k=> ?_,fun k=> ?_,fun k=> ?_⟩
 all_goals simp_all [inps,arrs,scs]
 all_goals (first|omega|(have q:=of_decide_eq_false ‹decide (_<=_)=false›;omega))
structure Good (g:TGraph) (D:List Int) (j:Nat):Prop where
 use:∀ x∈f41_l (at' g j),Use g D j x
 idx:Idx g (at' g j)
 nx:(at' g j).2.2.2.2.2.2.1<(g.1.length:Int)/\(at' g j).2.2.2.2.2.2.2<(g.1.length:Int)
 tst:(at' g j).1=15->14<=(at' g j).2.2.2.2.1/\(at' g j).2.2.2.2.1<=19
theorem f81_tot {g:TGraph} {D:List Int} (hD:DefsOK g D) (hS:(scs g).length<=64) {i:Nat} {y:TInstr} (hu:∀ x∈f41_l y,Use g D i x) (hi:Idx g y) (hG:∀ j,j<i->Good g D j):∃ r,f81_m (g,D,y)=some r:=by
 unfold f81_m f81_c;simp only [nt];refine cond_some (some_tot _) (cond_some (some_tot _) (cond_some (some_tot _) (cond_some (some_tot _) (cond_some (some_tot _) (cond_some (some_tot _) (cond_some (some_tot _) (cond_some (some_tot _) ?_)))))));by_cases h14:y.1=14
 · obtain ⟨a,b⟩:=hi.k11 (.inr h14);have b':y.2.2.1<(List.length g.2.2.2.2.2.2.1:Int):=b;simp only [h14,decide_true,cond_true,inRI a b',ask_true];exact cond_some (some_tot _) (some_tot _)
 · simp only [h14,decide_false,cond_false];refine cond_some (some_tot _) ?_;by_cases h13:y.1=13
   · obtain ⟨a,b⟩:=hi.k13 h13;have b':y.2.1<(List.length g.2.2.2.2.2.1:Int):=b;simp only [h13,decide_true,cond_true,inRI a b',ask_true];by_cases hs:(List.length g.2.2.2.2.2.1:Int)<=y.2.2.1
     · simp only [hs,decide_true,cond_true];have hmem:y.2.2.1∈f41_l y:=by simp [f41_l,h13]
       obtain ⟨u1,u2,u3⟩:=hu _ hmem;have hr:=hD.regs;have hl:=hD.len;have hs':((scs g).length:Int)<=y.2.2.1:=hs;have u3:=u3 hs';obtain ⟨k,hk⟩:=Int.eq_ofNat_of_zero_le (show 0<=y.2.2.1-((scs g).length:Int) by omega);have w:wi64 (y.2.2.1-(List.length g.2.2.2.2.2.1:Int))=(k:Int):=by
         show wi64 (y.2.2.1-((scs g).length:Int))=_;rw [hk,wi64_of (by omega) (by omega)]
       have hkD:k<D.length:=by omega
       obtain ⟨j,d1,d2,d3,d4⟩:=hD.dn k hkD;rw [hk,Int.toNat_natCast,gx_of d1] at u3;have hji:j<i:=by omega
       have gj:=hG j hji;simp only [w,inR hkD,ask_true,Int.toNat_natCast,gx_of d1,inR d2];by_cases h12:(gx g.1 j dInstr).1=12
       · obtain ⟨i1,i2⟩:=gj.idx.k12 h12;have i1:0<=(gx g.1 j dInstr).2.2.1:=i1;have i2':(gx g.1 j dInstr).2.2.1<(List.length g.2.2.2.2.1:Int):=i2;simp only [h12,decide_true,cond_true,inRI i1 i2',ask_true];refine bind_tot (f78_tot _) fun _ _=>cond_some (bind_tot (f79_tot _) fun _ _=>cond_some (some_tot _) (some_tot _)) (some_tot _)
       · simp only [h12,decide_false,cond_false];exact some_tot _
     · simp only [hs,decide_false,cond_false];exact some_tot _
   · simp only [h13,decide_false,cond_false];exact some_tot _
theorem f42_tot {g:TGraph} {D:List Int} (hD:DefsOK g D) (hS:(scs g).length<=64) {i:Nat} {y:TInstr} (hu:∀ x∈f41_l y,Use g D i x) (hi:Idx g y) (hG:∀ j,j<i->Good g D j):∃ r,f42_m (g,D,y)=some r:=by
 unfold f42_m f42_c;refine bind_tot (f81_tot hD hS hu hi hG) fun r _=>cond_some (some_tot _) (cond_some ?_ (some_tot _))
 by_cases h1:(0:Int)<y.2.2.2.2.2.1
 · simp only [h1,decide_true,cond_true,nt];by_cases h2:y.2.2.2.2.2.1<(List.length g.2.2.2.2.2.2.2:Int)
   · simp only [h2,decide_true,cond_true,inRI (Int.le_of_lt h1) h2,ask_true];exact some_tot _
   · simp only [h2,decide_false,cond_false];exact some_tot _
 · simp only [h1,decide_false,cond_false];exact some_tot _
theorem r20_eq {g:TGraph} {D:List Int} (hD:DefsOK g D) (hS:(scs g).length<=64) {i:Nat} {y:TInstr} (hu:∀ x∈f41_l y,Use g D i x) (hi:Idx g y) (hG:∀ j,j<i->Good g D j) (a b c):Fn (y.1=15->14<=y.2.2.2.2.1/\y.2.2.2.2.1<=19) (f10_r20.m (D,a,b,c,g,y)):=by
 simp only [PD.m,f10_r20];have h42:=f42_tot hD hS hu hi hG
 repeat' (first|exact fn_true|(refine fn_cond (fun h=> ?_) (fun h=> ?_))|(refine fn_bind h42 fun _ _=> ?_)|(refine fn_some fun h=> ?_))
 all_goals
  intro k;simp_all
theorem r9_eq (g:TGraph) (y:TInstr) (D a b c d):Fn (y.2.2.2.2.2.2.1<(g.1.length:Int)/\y.2.2.2.2.2.2.2<(g.1.length:Int)) (f10_r9.m (D,a,b,c,d,g,y)):=by
 simp only [PD.m,f10_r9];obtain ⟨r,h1,h2⟩:=f40_eq y (nt g.1.length) (by simp only [nt];omega);refine fn_cond (fun _=>fn_true) fun _=>fn_cond (fun _=>fn_true) fun _=>fn_cond (fun _=>fn_cond (fun _=>fn_true) fun _=> ?_) fun _=> ?_
 all_goals
  refine fn_bind (f39_tot _) fun _ _=>fn_cond (fun _=>fn_true) fun _=> ?_
  rw [h1];exact fn_some fun h=>h2 (by simpa using h)
theorem l7_eq {g : TGraph} {D : List Int} (hL : g.1.length ≤ 4096) (hD : DefsOK g D) (hS : (scs g).length ≤ 64) :
    ∃ e, loopAll (f10_l7.m (D, g.1, nt g.1.length, g)) 0 = some e ∧ ((∃ u, e = .inl u) ∨ (∃ u, e = .inr u) ∧ ∀ j, j < g.1.length → Good g D j) := by
  refine each_tot2 (n := g.1.length) (step := f10_l7.m (D, g.1, nt g.1.length, g)) (by omega) (fun k => ∀ j, j < k → Good g D j) (fun e => (∃ u, e = .inl u) ∨ (∃ u, e = .inr u) ∧ ∀ j, j < g.1.length → Good g D j) (fun j h => absurd h (Nat.not_lt_zero _)) (fun k hk hI => ?_) (fun hI => ?_)
  · have h' : (k : Int) < (g.1.length : Int) := by omega
    obtain ⟨y, hy⟩ : ∃ y, gx g.1 k dInstr = y := ⟨_, rfl⟩
    have hat : at' g k = y := hy
    simp only [LD.m, f10_l7, nt, h', decide_true, cond_true, inR hk, ask_true, Int.toNat_natCast, hy]
    obtain ⟨r, q1, q2⟩ := r9_eq g y D (k : Int) g.1 (g.1.length : Int) (k : Int)
    rw [q1]
    simp only [Option.bind_some]
    cases r
    · simp only [cond_false]
      rw [f41_eq]
      simp only [Option.bind_some]
      obtain ⟨e, l1, l2⟩ := l12_eq hD hS k y (f41_l y) (f41_len y) g.1 (g.1.length : Int) (k : Int)
      simp only [nt] at l1
      rw [l1]
      simp only [Option.bind_some]
      rcases l2 with ⟨u, rfl⟩ | ⟨⟨u, rfl⟩, hu⟩
      · exact gd_ke (.inl ⟨(), rfl⟩)
      · simp only [Sum.elim_inr]
        rw [r17_eq']
        simp only [Option.bind_some]
        obtain ⟨r, w1, w2⟩ := r18_eq g y D g.1 (g.1.length : Int) (k : Int)
        rw [w1]
        simp only [Option.bind_some]
        cases r
        · simp only [cond_false]
          have hi := w2 rfl
          obtain ⟨b, v1, v2⟩ := r20_eq hD hS hu hi hI g.1 (g.1.length : Int) (k : Int)
          rw [v1]
          simp only [Option.bind_some]
          cases b
          · exact gd_ki fun j hj => by
              by_cases e : j = k
              · subst e; exact ⟨by rw [hat]; exact hu, by rw [hat]; exact hi, by rw [hat]; exact q2 rfl, by rw [hat]; exact v2 rfl⟩
              · exact hI j (by omega)
          · exact gd_ke (.inl ⟨(), rfl⟩)
        · exact gd_ke (.inl ⟨(), rfl⟩)
    · exact gd_ke (.inl ⟨(), rfl⟩)
  · simp only [LD.m, f10_l7, nt, Int.lt_irrefl, decide_false, cond_false]
    exact ⟨_, rfl, .inr ⟨⟨(), rfl⟩, hI⟩⟩
end Go.U
end
section
set_option maxRecDepth 20000
namespace Go.U
open Go
theorem l43_12 (g:TGraph) (a b) (nx:TItv) (l:List Bool) (h1:nx.1<(l.length:Int)) (h2:nx.2<(l.length:Int)):∃ e,loopAll (f43_l12.m (a,b,nx,g,l)) (true,0)=some e:=by
 obtain ⟨e,h,_⟩:=loopAll_of (step:=f43_l12.m (a,b,nx,g,l)) (t:=(true,0)) (fun t=>t.2=0\/t.2=1\/t.2=2) (fun t=>2-t.2.toNat) (fun _=>True) (.inl rfl) (by simp) (fun t ht=>by
  obtain ⟨c,i⟩:=t;simp only at ht;simp only [LD.m,f43_l12];have w0:wi64 ((0:Int)+1)=1:=by decide
  have w1:wi64 ((1:Int)+1)=2:=by decide
  rcases ht with rfl|rfl|rfl
  · have d1:(0:Int)<2:=by decide
    simp only [d1,decide_true,cond_true,w0];refine .inl ?_;cases c
    · exact ⟨_,rfl,.inr (.inl rfl),by simp⟩
    · simp only [cond_true];by_cases hn:nx.1<0
      · simp only [hn,decide_true,cond_true];exact ⟨_,rfl,.inr (.inl rfl),by simp⟩
      · simp only [hn,decide_false,cond_false,inRI (show 0<=nx.1 by omega) h1,ask_true];exact ⟨_,rfl,.inr (.inl rfl),by simp⟩
  · have d1:(1:Int)<2:=by decide
    have d2:¬ (1:Int)=0:=by decide
    simp only [d1,d2,decide_true,decide_false,cond_true,cond_false,w1];refine .inl ?_;cases c
    · exact ⟨_,rfl,.inr (.inr rfl),by simp⟩
    · simp only [cond_true];by_cases hn:nx.2<0
      · simp only [hn,decide_true,cond_true];exact ⟨_,rfl,.inr (.inr rfl),by simp⟩
      · simp only [hn,decide_false,cond_false,inRI (show 0<=nx.2 by omega) h2,ask_true];exact ⟨_,rfl,.inr (.inr rfl),by simp⟩
  · have d1:¬ (2:Int)<2:=by decide
    simp only [d1,decide_false,cond_false];exact .inr ⟨_,rfl,trivial⟩)
 exact ⟨e,h⟩
def cf (l:List Bool):Nat:=List.countP (fun b=> !b) l
theorem cf_set {l:List Bool} {i:Nat} (hi:i<l.length) (h:gx l i false=false):cf (l.set i true)<cf l:=by
 unfold cf;rw [List.countP_set hi];have e:l[i]=false:=by
  have:=gx_lt (d:=false) hi;rw [h,List.getElem?_eq_getElem hi] at this;exact Option.some.inj this
 have:0<List.countP (fun b=> !b) l:=List.countP_pos_iff.2 ⟨false,by rw [<- e];exact List.getElem_mem hi,rfl⟩;simp [e];omega
theorem l43_6 (g:TGraph) (hN:g.1.length<=4096) (hx:∀ j,j<g.1.length->(at' g j).2.2.2.2.2.2.1<(g.1.length:Int)/\(at' g j).2.2.2.2.2.2.2<(g.1.length:Int)) (l0:List Bool) (hl0:l0.length=g.1.length):
  ∃ e,loopAll (f43_l6.m g) (false,(wi64 ((nt (List.length g.1))-(1:Int))),l0)=some e/\e.2.length=g.1.length/\cf e.2<=cf l0/\(e.1=true->cf e.2<cf l0):=by
 rw [wi64_of (by simp only [nt];omega) (by simp only [nt];omega)];refine loopAll_of (step:=f43_l6.m g) (fun t=>(∃ n:Nat,n<=g.1.length/\t.2.1=(n:Int)-1)/\t.2.2.length=g.1.length/\cf t.2.2<=cf l0/\(t.1=true->cf t.2.2<cf l0)) (fun t=>(t.2.1+1).toNat) (fun e=>e.2.length=g.1.length/\cf e.2<=cf l0/\(e.1=true->cf e.2<cf l0))
  ⟨⟨g.1.length,Nat.le_refl _,rfl⟩,hl0,Nat.le_refl _,fun h=>by cases h⟩ (by simp only [nt];omega) (fun t ⟨⟨n,hn,ht⟩,hl,hc,hs⟩=> ?_)
 obtain ⟨c,i,l⟩:=t;simp only at ht hl hc hs;subst ht;simp only [LD.m,f43_l6];cases n with
 |zero=>
  have d:¬ (0:Int)<=((0:Nat):Int)-1:=by decide
  simp only [d,decide_false,cond_false];exact .inr ⟨_,rfl,hl,hc,hs⟩
 |succ n=>
  have d:(0:Int)<=((n+1:Nat):Int)-1:=by omega
  have e:((n+1:Nat):Int)-1=(n:Int):=by omega
  have hnl:n<l.length:=by omega
  have hng:n<g.1.length:=by omega
  have w:wi64 ((n:Int)-1)=(n:Int)-1:=wi64_of (by omega) (by omega);simp only [d,decide_true,cond_true];rw [e];simp only [inR hnl,inR hng,ask_true,Int.toNat_natCast,w];refine .inl ?_;cases hg:gx l n false
  · have hm:=cf_set hnl hg;have mark:∃ t',some (Sum.inl (true,((n:Int)-1,l.set n true)))=some (Sum.inl t':(Bool×Int×List Bool) ⊕ (Bool×List Bool))/\((∃ m:Nat,m<=g.1.length/\t'.2.1=(m:Int)-1)/\t'.2.2.length=g.1.length/\cf t'.2.2<=cf l0/\(t'.1=true->cf t'.2.2<cf l0))/\(t'.2.1+1).toNat<((n:Int)+1).toNat:=
      ⟨_,rfl,⟨⟨n,by omega,rfl⟩,by simpa using hl,by simp only;omega,fun _=>by simp only;omega⟩,by simp only;omega⟩
    have stay:∃ t',some (Sum.inl (c,((n:Int)-1,l)))=some (Sum.inl t':(Bool×Int×List Bool) ⊕ (Bool×List Bool))/\((∃ m:Nat,m<=g.1.length/\t'.2.1=(m:Int)-1)/\t'.2.2.length=g.1.length/\cf t'.2.2<=cf l0/\(t'.1=true->cf t'.2.2<cf l0))/\(t'.2.1+1).toNat<((n:Int)+1).toNat:=
      ⟨_,rfl,⟨⟨n,by omega,rfl⟩,hl,hc,hs⟩,by simp only;omega⟩
    simp only [cond_false];cases !(decide ((gx g.1 n dInstr).1=(17:Int)))
    · exact mark
    · simp only [cond_true];cases !(decide ((gx g.1 n dInstr).1=(20:Int)))
      · exact mark
      · simp only [cond_true];obtain ⟨x1,x2⟩:=hx n hng;obtain ⟨r,hr⟩:=l43_12 g c (n:Int) (gx g.1 n dInstr).2.2.2.2.2.2 l (by rw [hl];exact x1) (by rw [hl];exact x2);rw [hr];simp only [Option.bind_some];cases r
        · exact stay
        · exact mark
  · simp only [cond_true];exact ⟨_,rfl,⟨⟨n,by omega,rfl⟩,hl,hc,hs⟩,by simp only;omega⟩
theorem nfit {n:Nat} (h:n<=4096):(decide (0<=(n:Int))&&decide ((n:Int)<=(n:Int))&&decide (1 * (n:Int)<=70368744177664)&&decide ((n:Int)<9223372036854775808))=true:=by
 have h1:(0:Int)<=n:=by omega
 have h2:1 * (n:Int)<=70368744177664:=by omega
 have h3:(n:Int)<9223372036854775808:=by omega
 rw [decide_eq_true h1,decide_eq_true (Int.le_refl _),decide_eq_true h2,decide_eq_true h3];rfl
theorem f43_tot (g:TGraph) (hN:g.1.length<=4096) (hx:∀ j,j<g.1.length->(at' g j).2.2.2.2.2.2.1<(g.1.length:Int)/\(at' g j).2.2.2.2.2.2.2<(g.1.length:Int)):∃ r,f43_m g=some r:=by
 unfold f43_m f43_c;have b1:(decide (0<=(nt (List.length g.1)))&&decide ((nt (List.length g.1))<=(nt (List.length g.1)))&&decide (1 * (nt (List.length g.1))<=70368744177664)&&decide ((nt (List.length g.1))<9223372036854775808))=true:=nfit hN;rw [b1,ask_true];obtain ⟨e,h1,h2⟩:=loopAll_of (step:=f43_l3.m g) (t:=(true,List.replicate (Int.toNat (nt (List.length g.1))) false)) (fun t=>t.2.length=g.1.length) (fun t=>2 * cf t.2+cond t.1 1 0) (fun e=>e.length=g.1.length) (by simp [nt]) (by
    have:cf (List.replicate (Int.toNat (nt (List.length g.1))) false)<=4096:=Nat.le_trans List.countP_le_length (by simp [nt];exact hN);simp only [cond_true];omega) (fun t ht=>by
  obtain ⟨c,l⟩:=t;simp only at ht;simp only [LD.m,f43_l3];cases c
  · exact .inr ⟨_,rfl,ht⟩
  · obtain ⟨e,q1,q2,q3,q4⟩:=l43_6 g hN hx l ht;have q1':loopAll (LD.m f43_l6 g) (false,(wi64 ((nt (List.length g.1))-(1:Int))),l)=some e:=q1;simp only [cond_true];refine .inl ⟨(e.1,e.2),?_,q2,?_⟩
    · have:(fun t=>f43_l6.m g t)=f43_l6.m g:=rfl;rw [q1'];rfl
    · cases hb:e.1
      · simp only [cond_false,cond_true];omega
      · simp only [cond_true];have:=q4 hb;omega)
 rw [h1];simp only [Option.bind_some];obtain ⟨e2,h3,_⟩:=each_tot2 (n:=e.length) (step:=f43_l20.m ((nt (List.length e)),e)) (by omega) (fun _=>True) (fun _=>True) trivial (fun i hi _=>by
  have h':(i:Int)<(e.length:Int):=by omega
  simp only [LD.m,f43_l20,nt,h',decide_true,cond_true,inR hi,ask_true]
  repeat (first|exact gd_ke trivial|exact gd_ki trivial|(refine gd_cond (fun _=> ?_) (fun _=> ?_)))) (fun _=>by
  simp only [LD.m,f43_l20,nt,Int.lt_irrefl,decide_false,cond_false];exact ⟨_,rfl,trivial⟩)
 rw [h3];simp only [Option.bind_some];cases e2<;>exact some_tot _
structure FitG (g:TGraph) (D:List Int):Prop where
 N1:0<g.1.length
 N:g.1.length<=4096
 S:(scs g).length<=64
 A:(inps g).length<=16
 I:Inits g
 defs:DefsOK g D
 good:∀ j,j<g.1.length->Good g D j
theorem f10_eq {g:TGraph} (h:Lens g):∃ r,f10_m g=some r/\(r=true->∃ D,FitG g D):=by
 unfold f10_m f10_c;have no:∃ r,some false=some r/\(r=true->∃ D,FitG g D):=⟨false,rfl,fun h=>by cases h⟩;obtain ⟨b,hb,hb2⟩:Fn ((0<g.1.length/\g.1.length<=4096)/\(scs g).length<=64/\(inps g).length<=16/\Inits g) (f10_r1.m g):=by
   simp only [PD.m,f10_r1,nt];refine fn_cond (fun _=>fn_true) fun k1=>fn_cond (fun _=>fn_true) fun k2=>fn_cond (fun _=>fn_true) fun k3=>fn_cond (fun _=>fn_true) fun k4=> ?_
   have k3:=of_decide_eq_false k3;have k4:=of_decide_eq_false k4;have k2:=of_decide_eq_false k2;have k1:=of_decide_eq_false k1;rw [inRI (by omega) (by omega),ask_true];refine fn_cond (fun _=>fn_true) fun _=> ?_
   obtain ⟨r,q1,q2⟩:=f37_eq h;rw [q1];exact fn_some fun hr=>⟨⟨by omega,by omega⟩,q2 (by simpa using hr)⟩
 rw [hb];simp only [Option.bind_some];cases b
 · obtain ⟨⟨hN1,hN⟩,hS,hA,hI⟩:=hb2 rfl;simp only [cond_false];obtain ⟨r,d1,d2⟩:=f38_eq g hN hS h.A;rw [d1];simp only [Option.bind_some];cases hr:r.2
   · exact no
   · have hD:=d2 hr;simp only [Bool.not_true,cond_false];obtain ⟨e,l1,l2⟩:=l7_eq hN hD hS;rw [l1];simp only [Option.bind_some];rcases l2 with ⟨u,rfl⟩|⟨⟨u,rfl⟩,hG⟩
     · exact no
     · simp only [Sum.elim_inr];obtain ⟨r,hr⟩:=f43_tot g hN fun j hj=>(hG j hj).nx
       rw [hr];exact ⟨r,rfl,fun _=>⟨_,hN1,hN,hS,hA,hI,hD,hG⟩⟩
 · exact no
end Go.U
end
section
set_option maxRecDepth 20000
namespace Go.U
open Go
def I64 (x:Int):Prop:= -9223372036854775808<=x/\x<=9223372036854775807
def CI (c:TCongr):Prop:=I64 c.2.1/\I64 c.2.2
theorem f82_eq {c:TCongr} (h:CI c):∃ r,f82_m c=some r/\(r=true->CR c):=by
 obtain ⟨b,m,x⟩:=c;obtain ⟨⟨h1,h2⟩,h3,h4⟩:=h;simp only at h1 h2 h3 h4;unfold f82_m f82_c;cases b
 · simp only [cond_false];by_cases hm:0<=m
   · simp only [hm,decide_true,cond_true];rw [f71_eq h1 h2 h3 h4];simp only [Option.bind_some];have e:(m.natAbs:Int)=m:=by omega
     rw [e];refine ⟨_,rfl,fun hr=> .inr ⟨rfl,hm,?_⟩⟩;simp at hr;rcases hq:nf m x with ⟨b1,m1,x1⟩
     rw [hq] at hr;simp at hr;obtain ⟨rfl,rfl,rfl⟩:=hr;rfl
   · simp only [hm,decide_false,cond_false];exact ⟨false,rfl,fun h=>by cases h⟩
 · simp only [cond_true];by_cases hm:m=0
   · simp only [hm,decide_true,cond_true];exact ⟨_,rfl,fun hr=> .inl (by simp at hr;rw [hr])⟩
   · simp only [hm,decide_false,cond_false];exact ⟨false,rfl,fun h=>by cases h⟩
theorem f44_eq {l : List TCongr} {n : Int} (hl : l.length ≤ 9223372036854775807) (hc : ∀ c ∈ l, CI c) : ∃ r, f44_m (l, n) = some r ∧ (r = true → (l.length : Int) = n ∧ ∀ j, j < l.length → CR (gx l j dCongr)) := by
  unfold f44_m f44_c
  simp only [nt]
  by_cases hn : (l.length : Int) = n
  · subst hn
    simp only [decide_true, Bool.not_true, cond_false]
    obtain ⟨e, h1, h2⟩ := each_tot2 (n := l.length) (step := f44_l4.m (l, (l.length : Int))) hl (fun k => ∀ j, j < k → CR (gx l j dCongr)) (fun e => (∃ u, e = .inl u) ∨ (∃ u, e = .inr u) ∧ ∀ j, j < l.length → CR (gx l j dCongr)) (fun j h => absurd h (Nat.not_lt_zero _)) (fun k hk hI => by
      have h' : (k : Int) < (l.length : Int) := by omega
      simp only [LD.m, f44_l4, h', decide_true, cond_true, inR hk, ask_true, Int.toNat_natCast]
      refine gd_cond (fun _ => gd_ke (.inl ⟨(), rfl⟩)) fun _ => ?_
      obtain ⟨r, q1, q2⟩ := f82_eq (hc (gx l k dCongr) (List.mem_of_getElem? (gx_lt hk)))
      rw [q1]
      simp only [Option.bind_some]
      cases r
      · exact gd_ke (.inl ⟨(), rfl⟩)
      · exact gd_ki fun j hj => by
          by_cases e : j = k
          · subst e; exact q2 rfl
          · exact hI j (by omega)) (fun hI => by
      simp only [LD.m, f44_l4, Int.lt_irrefl, decide_false, cond_false]
      exact ⟨_, rfl, .inr ⟨⟨(), rfl⟩, hI⟩⟩)
    rw [h1]
    simp only [Option.bind_some]
    rcases h2 with ⟨u, rfl⟩ | ⟨⟨u, rfl⟩, hI⟩
    · exact ⟨false, rfl, fun h => by cases h⟩
    · exact ⟨true, rfl, fun _ => ⟨trivial, hI⟩⟩
  · simp only [hn, decide_false, Bool.not_false, cond_true]; exact ⟨false, rfl, fun h => by cases h⟩
structure LensM (s:TMods):Prop where
 a:s.2.1.length<=9223372036854775807
 b:s.2.2.length<=9223372036854775807
 ca:∀ c∈s.2.1,CI c
 cb:∀ c∈s.2.2,CI c
structure FitS (g:TGraph) (s:TMods):Prop where
 sl:s.2.1.length=(scs g).length
 il:s.2.2.length=(inps g).length
 sc:∀ j,j<s.2.1.length->CR (gx s.2.1 j dCongr)
 ic:∀ j,j<s.2.2.length->CR (gx s.2.2 j dCongr)
theorem f11_eq {g:TGraph} {s:TMods} (h:LensM s):∃ r,f11_m (g,s)=some r/\(r=true->s.1=true->FitS g s):=by
 unfold f11_m f11_c;cases hb:s.1
 · simp only [hb,Bool.not_false,cond_true];obtain ⟨r,hr⟩:=(cond_some (some_tot _) (some_tot _):∃ r,(cond (decide ((nt (List.length s.2.1))=(0:Int))) (some (decide ((nt (List.length s.2.2))=(0:Int)))) (some false))=some r);exact ⟨r,hr,fun _ h=>by cases h⟩
 · simp only [hb,Bool.not_true,cond_false];obtain ⟨r1,q1,q2⟩:=f44_eq (n:=nt (List.length g.2.2.2.2.2.1)) h.a h.ca;rw [q1];simp only [Option.bind_some];cases r1
   · exact ⟨false,rfl,fun h=>by cases h⟩
   · obtain ⟨r2,q3,q4⟩:=f44_eq (n:=nt (List.length g.2.2.2.2.2.2.1)) h.b h.cb;simp only [cond_true];rw [q3];refine ⟨r2,rfl,fun hr _=> ?_⟩;obtain ⟨a1,a2⟩:=q2 rfl;obtain ⟨b1,b2⟩:=q4 hr;simp only [nt] at a1 b1;exact ⟨Int.ofNat.inj a1,Int.ofNat.inj b1,a2,b2⟩
end Go.U
end
section
set_option maxRecDepth 20000
namespace Go.U
open Go
theorem okI64 {S:Nat} {n:Int} (h:okC S (.int .i64) n):I64 n:=by
 have e1:IntKind.i64.min= -9223372036854775808:=by decide
 have e2:IntKind.i64.max=9223372036854775807:=by decide
 obtain ⟨h1,h2⟩:=h;rw [e1] at h1;rw [e2] at h2;exact ⟨h1,h2⟩
theorem maxLen_eq:maxLen=9223372036854775807:=by decide
theorem mem_at {g:TGraph} {j:Nat} (h:j<g.1.length):at' g j∈g.1:=List.mem_of_getElem? (gx_lt (d:=dInstr) h)
theorem lens_of {S:Nat} (hS:S<=maxLen) {g:TGraph} (h:okC S cGraph g):Lens g:=by
 obtain ⟨⟨⟨hi,_⟩,hi2⟩,_,_,_,⟨⟨ha,_⟩,ha2⟩,⟨⟨hs,_⟩,_⟩,⟨⟨hn,_⟩,_⟩,⟨hl,_⟩,_⟩:=h;rw [maxLen_eq] at hS;have hi:=Nat.le_trans hi hS;have ha:=Nat.le_trans ha hS;have hs:=Nat.le_trans hs hS;have hn:=Nat.le_trans hn hS;have hl:=Nat.le_trans hl hS;refine ⟨hi,hs,ha,hn,hl,fun j hj=> ?_⟩;obtain ⟨_,h2,_⟩:=hi2 _ (mem_at hj);exact okI64 h2
theorem lensM_of {S:Nat} (hS:S<=maxLen) {s:TMods} (h:okC S cMods s):LensM s:=by
 obtain ⟨_,⟨⟨ha,_⟩,ha2⟩,⟨⟨hb,_⟩,hb2⟩⟩:=h;rw [maxLen_eq] at hS;have ha:=Nat.le_trans ha hS;have hb:=Nat.le_trans hb hS;exact ⟨ha,hb,fun c hc=>⟨okI64 (ha2 c hc).2.1,okI64 (ha2 c hc).2.2⟩,fun c hc=>⟨okI64 (hb2 c hc).2.1,okI64 (hb2 c hc).2.2⟩⟩
theorem awake:f12_m ()=some true:=by kernel_rfl
end Go.U
end
section
set_option maxRecDepth 20000
namespace Go.U
open Go
theorem CR.rem {c:TCongr} (h:CR c) (h1:c.1=false) (h0:c.2.1≠0):c.2.2=c.2.2%c.2.1/\0<=c.2.2/\c.2.2<c.2.1:=by
 rcases h with rfl|⟨_,h2,h3⟩
 · simp at h1
 · obtain ⟨b,m,x⟩:=c;simp only at h0 h2 h3 ⊢;have k1:=Int.emod_nonneg x h0;have k2:=Int.emod_lt_of_pos x (show 0<m by omega);have e:x=x%m:=by
    unfold nf at h3;rw [if_neg h0] at h3;split at h3
    · simp only [Prod.mk.injEq] at h3;exact absurd h3.2.1.symm h0
    · split at h3
      · simp only [Prod.mk.injEq] at h3;exact absurd h3.2.1.symm h0
      · simp only [Prod.mk.injEq] at h3;exact h3.2.2.symm
   exact ⟨e,by omega,by omega⟩
def hasc (c:TCongr) (v:Int):Bool:= !c.1&&(decide (-2147483648<=v)&&decide (v<=2147483647))&&(if c.2.1=0 then decide (v=c.2.2) else decide (v%c.2.1=c.2.2))
theorem tmod_zero_iff {a m:Int}:Int.tmod a m=0↔m ∣ a:=⟨fun h=>Int.dvd_of_tmod_eq_zero h,fun h=>Int.tmod_eq_zero_of_dvd h⟩
theorem rem_iff {v m r:Int} (hm:m≠0) (h0:0<=r) (h1:r<m):Int.tmod (v-r) m=0↔v%m=r:=by
 rw [tmod_zero_iff];have hr:r%m=r:=Int.emod_eq_of_lt h0 h1;constructor
 · intro h;have:=Int.emod_emod_of_dvd v (Int.dvd_refl m);have e:(v-r)%m=0:=Int.emod_eq_zero_of_dvd h;have e2:=Int.emod_eq_emod_iff_emod_sub_eq_zero.2 e;rw [e2,hr]
 · intro h;refine Int.dvd_of_emod_eq_zero ?_;exact Int.emod_eq_emod_iff_emod_sub_eq_zero.1 (by rw [h,hr])
theorem loop_all {n:Nat} (hn:n<=9223372036854775807) {p:Nat->Bool} {step:Int->Option (Int ⊕ (Unit ⊕ Unit))} (hs:∀ i:Nat,i<n->step (i:Int)=some (cond (p i) (.inl (wi64 ((i:Int)+1))) (.inr (.inl ()))))
  (he:step (n:Int)=some (.inr (.inr ()))):loopAll step 0=some (cond ((List.range n).all p) (.inr ()) (.inl ())):=by
 obtain ⟨e,h1,h2⟩:=each_tot2 (n:=n) (step:=step) hn (fun k=>∀ j,j<k->p j=true) (fun e=>(e= .inl ()/\(List.range n).all p=false)\/(e= .inr ()/\(List.range n).all p=true)) (fun j h=>absurd h (Nat.not_lt_zero _)) (fun i hi hI=>by
  rw [hs i hi]
  cases hp:p i
  · refine gd_ke (.inl ⟨rfl,?_⟩)
    rw [List.all_eq_false]
    exact ⟨i,List.mem_range.2 hi,by rw [hp];simp⟩
  · exact gd_ki fun j hj=>by
     by_cases e:j=i
     · subst e;exact hp
     · exact hI j (by omega)) (fun hI=>⟨_,he,.inr ⟨rfl,List.all_eq_true.2 fun j hj=>hI j (List.mem_range.1 hj)⟩⟩)
 rw [h1]
 rcases h2 with ⟨rfl,h3⟩|⟨rfl,h3⟩<;>rw [h3]<;>rfl
theorem loop_run {T E:Type} {step:T->Option (T ⊕ E)} {n:Nat} (s:Nat->T) (x:E) (hn:n<18446744073709551616) (μ:T->Nat) (hμ:∀ i,i<=n->μ (s i)=n-i) (hs:∀ i,i<n->step (s i)=some (.inl (s (i+1)))) (he:step (s n)=some (.inr x)):loopAll step (s 0)=some x:=by
 obtain ⟨e,h1,h2⟩:=loopAll_of (fun t=>∃ i,i<=n/\t=s i) μ (fun e=>e=x) ⟨0,Nat.zero_le _,rfl⟩ (by rw [hμ 0 (Nat.zero_le _)];omega) (fun t ⟨i,hi,ht⟩=>by
  subst ht;by_cases h:i<n
  · exact .inl ⟨_,hs i h,⟨i+1,h,rfl⟩,by rw [hμ _ h,hμ _ hi];omega⟩
  · have:i=n:=by omega
    subst this;exact .inr ⟨_,he,rfl⟩)
 rw [h1,h2]
end Go.U
end
section
set_option maxRecDepth 20000
namespace Go.U
open Go
theorem f65_eq {c:TCongr} (h:CR c) (v:Int):f65_m (c,v)=some (hasc c v):=by
 unfold f65_m f65_c hasc;cases hb:c.1
 · obtain ⟨a0,a1,a2,a3,a4,a5⟩:=h.bounds hb;simp only [cond_false,Bool.not_false,Bool.true_and];by_cases h1:v< -2147483648
   · have:¬ -2147483648<=v:=by omega
     simp [h1,this]
   · by_cases h2:2147483647<v
     · have:¬ v<=2147483647:=by omega
       simp [h1,h2,this]
     · have e1: -2147483648<=v:=by omega
       have e2:v<=2147483647:=by omega
       simp only [h1,h2,e1,e2,decide_true,decide_false,cond_false,Bool.true_and];by_cases h0:c.2.1=0
       · simp [h0]
       · obtain ⟨r1,r2,r3⟩:=h.rem hb h0;simp only [h0,decide_false,cond_false,if_false];rw [wi64_of (by omega) (by omega)];congr 1;have:=rem_iff (v:=v) h0 r2 r3;by_cases hh:v%c.2.1=c.2.2
         · simp [hh,this.2 hh]
         · have h':¬ Int.tmod (v-c.2.2) c.2.1=0:=fun e=>hh (this.1 e)
           simp [hh,h']
 · simp
end Go.U
end
