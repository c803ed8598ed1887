/- What these Lean functions compute: plain arithmetic of congruences, the checks of a graph, the values of its registers. -/
import Derived.Test.YtcbcifeaalkdfaaGreatDoorD3
import Derived.Test.YtcbcifeaalkdfaaGreatDoorD2
import Derived.Test.YtcbcifeaalkdfaaGreatDoorD4
set_option linter.unusedVariables false
set_option linter.unusedSimpArgs false
set_option linter.unusedSectionVars false
section
set_option maxRecDepth 20000
namespace Go.U
open Go
theorem f64_eq {c:TCongr} (h:CR c) (v:Int):f64_m (c,v)=some (hasc c v):=by
 unfold f64_m f64_c hasc;cases hb:c.1
 · obtain ⟨a0,a1,a2,a3,a4,a5⟩:=h.bounds hb;simp only [cond_false,Bool.not_false,Bool.true_and];by_cases h1:v< -2147483648
   · have:¬ -2147483648<=v:=by omega
     simp [h1,this]
   · by_cases h2:2147483647<v
     · have:¬ v<=2147483647:=by omega
       simp [h1,h2,this]
     · have e1: -2147483648<=v:=by omega
       have e2:v<=2147483647:=by omega
       simp only [h1,h2,e1,e2,decide_true,decide_false,cond_false,Bool.true_and];by_cases h0:c.2.1=0
       · simp [h0]
       · obtain ⟨r1,r2,r3⟩:=h.rem hb h0;simp only [h0,decide_false,cond_false,if_false];rw [wu64_of (n:=c.2.1) a0 (by omega),wu64_of (n:=c.2.2) r2 (by omega),f117_eq (by omega) (by omega) (by omega) (by omega)];rfl
 · simp
end Go.U
end
section
set_option maxRecDepth 20000
namespace Go.U
open Go
theorem dvd_emod {m a b:Int} (h:m ∣ a-b):a%m=b%m:=Int.emod_eq_emod_iff_emod_sub_eq_zero.2 (Int.emod_eq_zero_of_dvd h)
theorem emod_dvd {m a b:Int} (h:a%m=b%m):m ∣ a-b:=Int.dvd_of_emod_eq_zero (Int.emod_eq_emod_iff_emod_sub_eq_zero.1 h)
theorem nf_one {m x y z:Int} (hm:0<m) (h:nf m x=(false,(0,y))) (hz0: -2147483648<=z) (hz1:z<=2147483647) (hd:m ∣ z-x):z=y:=by
 have hm0:m≠0:=by omega
 unfold nf at h;rw [if_neg hm0] at h;split at h
 · simp at h
 · rename_i g1;split at h
   · rename_i g2;simp only [Prod.mk.injEq,true_and] at h;have e:(z+2147483648)%m=(x+2147483648)%m:=dvd_emod (by rw [show z+2147483648-(x+2147483648)=z-x by omega];exact hd);have e2:=Int.emod_add_mul_ediv (z+2147483648) m;have q0:0<=(z+2147483648)/m:=Int.ediv_nonneg (by omega) (by omega);unfold lo31 at g1 g2 h;rw [e] at e2;generalize (z+2147483648)/m=q at e2 q0;by_cases hq:q=0
     · subst hq;rw [Int.mul_zero] at e2;omega
     · have:m * 1<=m * q:=Int.mul_le_mul_of_nonneg_left (by omega) (by omega);rw [Int.mul_one] at this;omega
   · simp only [Prod.mk.injEq,true_and] at h;omega
theorem CR.two {c:TCongr} (h:CR c) (h1:c.1=false) (h0:c.2.1≠0):∃ z w:Int,z≠w/\ -2147483648<=z/\z<=2147483647/\ -2147483648<=w/\w<=2147483647/\c.2.1 ∣ z-c.2.2/\c.2.1 ∣ w-c.2.2:=by
 obtain ⟨e1,e2,e3⟩:=show c.1=false/\0<=c.2.1/\nf c.2.1 c.2.2=c by
   rcases h with rfl|h
   · simp at h1
   · exact h
 obtain ⟨b,m,x⟩:=c;simp only at h0 e1 e2 e3 ⊢;subst e1;obtain ⟨k,l1,l2,l3⟩:=lo31_eq (m:=m) (x:=x) (by omega);unfold nf at e3;rw [if_neg h0] at e3;split at e3
 · simp at e3
 · split at e3
   · simp only [Prod.mk.injEq,true_and] at e3;omega
   · simp only [Prod.mk.injEq,true_and] at e3;have d:m ∣ lo31 m x-x:=by
      rw [l1,e3];exact ⟨-k,by rw [Int.mul_neg];omega⟩
     refine ⟨lo31 m x,lo31 m x+m,by omega,l2,by omega,by omega,by omega,d,?_⟩;rw [show lo31 m x+m-x=(lo31 m x-x)+m by omega];exact Int.dvd_add d (Int.dvd_refl m)
def leqr (a b:TCongr):Bool:=cond a.1 true (cond b.1 false (if a.2.1=0 then hasc b a.2.2 else (!(decide (b.2.1=0))&&(decide (b.2.1 ∣ a.2.1)&&decide (b.2.1 ∣ a.2.2-b.2.2)))))
end Go.U
end
section
set_option maxRecDepth 20000
namespace Go.U
open Go
theorem range_gx {α:Type} {l:List α} {d:α}:(List.range l.length).map (fun j=>gx l j d)=l:=by
 refine List.ext_getElem (by simp) fun i h1 h2=> ?_
 simp [gx,List.getD,List.getElem?_eq_getElem h2]
theorem gx_map {α:Type} {n:Nat} {F:Nat->α} {d:α} {i:Nat} (h:i<n):gx ((List.range n).map F) i d=F i:=by simp [gx,List.getD,h]
theorem len24 {n:Nat} (h:n<=1048576):(decide (n * 24<=70368744177664)&&decide (n<9223372036854775808))=true:=by simp;omega
def stepL (a:List TCongr) (F:Nat->TCongr) (n i:Nat):List TCongr:=(List.range n).map fun j=>if j<i then F j else gx a j dCongr
theorem stepL_len {a:List TCongr} {F:Nat->TCongr} {n i:Nat}:(stepL a F n i).length=n:=by simp [stepL]
theorem stepL_at {a:List TCongr} {F:Nat->TCongr} {n i:Nat} (h:i<n):gx (stepL a F n i) i dCongr=gx a i dCongr:=by
 unfold stepL;rw [gx_map h,if_neg (Nat.lt_irrefl _)]
theorem stepL_set {a:List TCongr} {F:Nat->TCongr} {n i:Nat} (h:i<n):List.set (stepL a F n i) i (F i)=stepL a F n (i+1):=by
 refine List.ext_getElem (by simp [stepL]) fun k h1 h2=> ?_
 rw [List.getElem_set];simp only [stepL,List.getElem_map,List.getElem_range];by_cases hk:i=k
 · subst hk;simp
 · rw [if_neg hk];by_cases h3:k<i
   · rw [if_pos h3,if_pos (by omega)]
   · rw [if_neg h3,if_neg (by omega)]
theorem stepL_zero {a:List TCongr} {F:Nat->TCongr}:stepL a F a.length 0=a:=by
 refine Eq.trans ?_ (range_gx (d:=dCongr));exact List.map_congr_left fun j hj=>if_neg (Nat.not_lt_zero _)
theorem stepL_all {a:List TCongr} {F:Nat->TCongr} {n:Nat}:stepL a F n n=(List.range n).map F:=
 List.map_congr_left fun j hj=>if_pos (List.mem_range.1 hj)
theorem loop_set {a:List TCongr} (hn:a.length<=1048576) {F:Nat->TCongr} {step:Int×List TCongr->Option ((Int×List TCongr) ⊕ List TCongr)} (hs:∀ (i:Nat) (l:List TCongr),i<a.length->l.length=a.length->gx l i dCongr=gx a i dCongr->step ((i:Int),l)=some (.inl (wi64 ((i:Int)+1),List.set l i (F i))))
  (he:∀ l,l.length=a.length->step ((a.length:Int),l)=some (.inr l)):loopAll step (0,a)=some ((List.range a.length).map F):=by
 have:=loop_run (n:=a.length) (step:=step) (fun i=>((i:Int),stepL a F a.length i)) ((List.range a.length).map F) (by omega) (fun t=>a.length-t.1.toNat) (fun i hi=>by simp) (fun i hi=>by
  rw [hs i _ hi stepL_len (stepL_at hi),wi64_of (by omega) (by omega),stepL_set hi];rfl) (by rw [he _ stepL_len,stepL_all])
 simp only [stepL_zero] at this;exact this
structure Pair (a b:List TCongr):Prop where
 n:a.length<=1048576
 e:a.length=b.length
 ca:∀ i,i<a.length->CR (gx a i dCongr)
 cb:∀ i,i<a.length->CR (gx b i dCongr)
structure PairM (a b:TMods):Prop where
 v:Pair a.2.1 b.2.1
 w:Pair a.2.2 b.2.2
structure Small (a:TMods):Prop where
 v:a.2.1.length<=1048576
 w:a.2.2.length<=1048576
end Go.U
end
section
set_option maxRecDepth 20000
namespace Go.U
open Go
def mem (c:TCongr) (z:Int):Prop:=c.1=false/\ -2147483648<=z/\z<=2147483647/\c.2.1 ∣ z-c.2.2
theorem lo_dvd {m x:Int} (hm:0<m):m ∣ lo31 m x-x:=by
 obtain ⟨k,h,_,_⟩:=lo31_eq (m:=m) (x:=x) hm;have e:=Int.emod_add_mul_ediv x m;exact ⟨-(x/m)-k,by rw [h,Int.mul_sub,Int.mul_neg];omega⟩
theorem lo_le {m x z:Int} (hm:0<m) (hz: -2147483648<=z) (hd:m ∣ z-x):lo31 m x<=z:=by
 have e:(z+2147483648)%m=(x+2147483648)%m:=dvd_emod (by rw [show z+2147483648-(x+2147483648)=z-x by omega];exact hd);have e2:=Int.emod_add_mul_ediv (z+2147483648) m;have q0:0<=m * ((z+2147483648)/m):=Int.mul_nonneg (by omega) (Int.ediv_nonneg (by omega) (by omega));unfold lo31;omega
theorem dvd_swap {m a b c:Int} (h:m ∣ b-c):m ∣ a-b↔m ∣ a-c:=by
 constructor
 · intro k;rw [show a-c=(a-b)+(b-c) by omega];exact Int.dvd_add k h
 · intro k;rw [show a-b=(a-c)-(b-c) by omega];exact Int.dvd_sub k h
theorem mem_nf {m x z:Int} (hm:0<=m):mem (nf m x) z↔ -2147483648<=z/\z<=2147483647/\m ∣ z-x:=by
 unfold mem;by_cases h0:m=0
 · subst h0;unfold nf;simp only [if_true];by_cases hx: -2147483648<=x/\x<=2147483647
   · rw [if_pos hx];exact ⟨fun h=>h.2,fun h=>⟨rfl,h⟩⟩
   · rw [if_neg hx];refine ⟨fun h=>(by cases h.1),fun ⟨h1,h2,h3⟩=>absurd ?_ hx⟩;have:=Int.zero_dvd.1 h3;omega
 · have hp:0<m:=by omega
   have hlo:=lo_dvd (x:=x) hp;obtain ⟨k,_,l2,l3⟩:=lo31_eq (m:=m) (x:=x) hp;unfold nf;rw [if_neg h0];split
   · rename_i g1;refine ⟨fun h=>(by cases h.1),fun ⟨h1,h2,h3⟩=> ?_⟩;have:=lo_le hp h1 h3;omega
   · rename_i g1;split
     · rename_i g2;simp only [true_and];constructor
       · rintro ⟨h1,h2,h3⟩
         have h3:=Int.zero_dvd.1 h3;have:z=lo31 m x:=by omega
         subst this;exact ⟨h1,h2,hlo⟩
       · rintro ⟨h1,h2,h3⟩
         refine ⟨h1,h2,?_⟩;have:=nf_one (y:=lo31 m x) hp (by unfold nf;rw [if_neg h0,if_neg g1,if_pos g2]) h1 h2 h3;subst this;rw [Int.sub_self];exact Int.dvd_zero _
     · simp only [true_and];have:m ∣ x%m-x:=⟨-(x/m),by have:=Int.emod_add_mul_ediv x m;rw [Int.mul_neg];omega⟩;exact and_congr_right fun _=>and_congr_right fun _=>dvd_swap this
theorem CR.step {c:TCongr} (h:CR c) (h1:c.1=false):∃ z:Int,-2147483648<=z/\z+c.2.1<=2147483647/\c.2.1 ∣ z-c.2.2:=by
 obtain ⟨e1,e2,e3⟩:=show c.1=false/\0<=c.2.1/\nf c.2.1 c.2.2=c by
   rcases h with rfl|h
   · simp at h1
   · exact h
 obtain ⟨b,m,x⟩:=c;simp only at e1 e2 e3 ⊢;subst e1;by_cases h0:m=0
 · subst h0;unfold nf at e3;simp only [if_true] at e3;split at e3
   · rename_i g;exact ⟨x,g.1,by omega,by rw [Int.sub_self];exact Int.dvd_zero _⟩
   · simp at e3
 · obtain ⟨k,l1,l2,l3⟩:=lo31_eq (m:=m) (x:=x) (by omega);have d:=lo_dvd (x:=x) (show 0<m by omega);unfold nf at e3;rw [if_neg h0] at e3;split at e3
   · simp at e3
   · split at e3
     · simp only [Prod.mk.injEq,true_and] at e3;omega
     · exact ⟨_,l2,by omega,d⟩
theorem hasc_mem {c:TCongr} (h:CR c) (v:Int):hasc c v=true↔mem c v:=by
 unfold hasc mem;cases h1:c.1
 · simp only [Bool.not_false,Bool.true_and,Bool.and_eq_true,decide_eq_true_eq,true_and,and_assoc];refine and_congr_right fun _=>and_congr_right fun _=> ?_
   by_cases h0:c.2.1=0
   · simp only [h0,if_true,decide_eq_true_eq,Int.zero_dvd];omega
   · obtain ⟨r1,r2,r3⟩:=h.rem h1 h0;simp only [h0,if_false,decide_eq_true_eq];constructor
     · intro e;exact emod_dvd (by rw [e];exact r1)
     · intro e;rw [dvd_emod e];exact r1.symm
 · simp
theorem leq_mem {a b:TCongr} (ha:CR a) (hb:CR b):leqr a b=true↔∀ z,mem a z->mem b z:=by
 unfold leqr;cases h1:a.1
 · simp only [cond_false];obtain ⟨a0,_,a2,_,_,a5⟩:=ha.bounds h1;obtain ⟨z0,k1,k2,k3⟩:=ha.step h1;cases h2:b.1
   · simp only [cond_false];by_cases h0:a.2.1=0
     · have m0:mem a a.2.2:=⟨h1,a2,a5 h0,by rw [Int.sub_self];exact Int.dvd_zero _⟩;simp only [h0,if_true];rw [hasc_mem hb];constructor
       · rintro h z ⟨_,_,_,z3⟩
         rw [h0] at z3;have:=Int.zero_dvd.1 z3;have:z=a.2.2:=by omega
         subst this;exact h
       · intro h;exact h _ m0
     · simp only [h0,if_false,Bool.and_eq_true,Bool.not_eq_true',decide_eq_true_eq,decide_eq_false_iff_not];constructor
       · rintro ⟨_,d1,d2⟩ z ⟨_,z1,z2,z3⟩
         exact ⟨h2,z1,z2,(dvd_swap d2).1 (Int.dvd_trans d1 z3)⟩
       · intro h;obtain ⟨_,_,_,e1⟩:=h z0 ⟨h1,k1,by omega,k3⟩;obtain ⟨_,_,_,e2⟩:=h (z0+a.2.1) ⟨h1,by omega,k2,by rw [show z0+a.2.1-a.2.2=(z0-a.2.2)+a.2.1 by omega];exact Int.dvd_add k3 (Int.dvd_refl _)⟩;have d1:b.2.1 ∣ a.2.1:=by
          have:=Int.dvd_sub e2 e1;rw [show z0+a.2.1-b.2.2-(z0-b.2.2)=a.2.1 by omega] at this;exact this
         refine ⟨fun e=>h0 (Int.zero_dvd.1 (e ▸ d1)),d1,?_⟩;have:=Int.dvd_sub e1 (Int.dvd_trans d1 k3);rw [show z0-b.2.2-(z0-a.2.2)=a.2.2-b.2.2 by omega] at this;exact this
   · simp only [cond_true];refine ⟨fun h=>(by cases h),fun h=> ?_⟩;have:=(h z0 ⟨h1,k1,by omega,k3⟩).1;rw [h2] at this;cases this
 · simp only [cond_true];exact ⟨fun _ z hz=>(by have:=hz.1;rw [h1] at this;cases this),fun _=>trivial⟩
theorem le_div {a b:TCongr} (ha:CR a) (hb:CR b) (h:leqr a b=true) (h1:a.1=false):b.1=false/\b.2.1 ∣ a.2.1/\b.2.1 ∣ a.2.2-b.2.2:=by
 have h':=(leq_mem ha hb).1 h;obtain ⟨a0,_,a2,_,_,a5⟩:=ha.bounds h1;obtain ⟨z0,k1,k2,k3⟩:=ha.step h1;obtain ⟨e0,_,_,e1⟩:=h' z0 ⟨h1,k1,by omega,k3⟩;obtain ⟨_,_,_,e2⟩:=h' (z0+a.2.1) ⟨h1,by omega,k2,by rw [show z0+a.2.1-a.2.2=(z0-a.2.2)+a.2.1 by omega];exact Int.dvd_add k3 (Int.dvd_refl _)⟩;have d1:b.2.1 ∣ a.2.1:=by
  have:=Int.dvd_sub e2 e1;rw [show z0+a.2.1-b.2.2-(z0-b.2.2)=a.2.1 by omega] at this;exact this
 refine ⟨e0,d1,?_⟩;have:=Int.dvd_sub e1 (Int.dvd_trans d1 k3);rw [show z0-b.2.2-(z0-a.2.2)=a.2.2-b.2.2 by omega] at this;exact this
theorem gdl (a b:Nat):((Nat.gcd a b:Nat):Int) ∣ (a:Int):=Int.natCast_dvd_natCast.2 (Nat.gcd_dvd_left _ _)
theorem gdr (a b:Nat):((Nat.gcd a b:Nat):Int) ∣ (b:Int):=Int.natCast_dvd_natCast.2 (Nat.gcd_dvd_right _ _)
end Go.U
end
section
set_option maxRecDepth 20000
namespace Go.U
open Go
section
variable {x y x' y':TCongr} (hx:CR x) (hy:CR y) (hx':CR x') (hy':CR y') (h:leqr x x'=true) (h':leqr y y'=true)
include hx hx' h
include hy hy' h'
end
section
variable {x y x' y':TCongr} (hx:CR x) (hy:CR y) (hx':CR x') (hy':CR y') (h:leqr x x'=true) (h':leqr y y'=true)
include hx hy hx' hy' h h'
end
section
variable {x y x' y':TCongr} (hx:CR x) (hy:CR y) (hx':CR x') (hy':CR y') (h:leqr x x'=true) (h':leqr y y'=true)
include hx hy hx' hy' h h'
end
theorem const_eq {a b:TCongr} (ha:CR a) (hb:CR b) (h:leqr a b=true) (h1:a.1=false) (h0:b.2.1=0):a=b:=by
 obtain ⟨e1,d1,d2⟩:=le_div ha hb h h1;rw [h0] at d1 d2;have:=Int.zero_dvd.1 d1;have:=Int.zero_dvd.1 d2;obtain ⟨p,m,r⟩:=a;obtain ⟨q,m',r'⟩:=b;simp only at *
 subst h1;subst e1;have:m=m':=by omega
 have:r=r':=by omega
 simp [*]
end Go.U
end
section
set_option maxRecDepth 20000
namespace Go.U
open Go
section
variable {x y x' y':TCongr} (hx:CR x) (hy:CR y) (hx':CR x') (hy':CR y') (h:leqr x x'=true) (h':leqr y y'=true)
include hx hx' h
include hy hy' h'
end
structure LeL (a b:List TCongr):Prop where
 e:a.length=b.length
 ca:∀ i,i<a.length->CR (gx a i dCongr)
 cb:∀ i,i<a.length->CR (gx b i dCongr)
 le:∀ i,i<a.length->leqr (gx a i dCongr) (gx b i dCongr)=true
section
variable {g:TGraph} {D:List Int} {a b:TMods}
theorem reg_cases (hG:FitG g D) {x:Int} (h0:0<=x) (h1:x<g.2.2.1):(0<=x/\x<((scs g).length:Int))\/(∃ j,j<g.1.length/\j<g.1.length/\isD (at' g j)=true/\(at' g j).2.1=x):=by
 rcases Int.lt_or_le x ((scs g).length:Int) with h4|h4
 · exact .inl ⟨h0,h4⟩
 · have hr:=hG.defs.regs;obtain ⟨k,hk⟩:=Int.eq_ofNat_of_zero_le (show 0<=x-((scs g).length:Int) by omega);obtain ⟨j,d1,d2,d3,d4⟩:=hG.defs.dn k (by omega);exact .inr ⟨j,d2,d2,d3,by omega⟩
end
end Go.U
end
