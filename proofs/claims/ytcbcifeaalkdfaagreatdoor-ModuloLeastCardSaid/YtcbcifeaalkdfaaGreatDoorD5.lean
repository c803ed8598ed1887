/- What these Lean functions compute: plain arithmetic of congruences, the checks of a graph, the values of its registers. -/
import Derived.Test.YtcbcifeaalkdfaaGreatDoorD3
import Derived.Test.YtcbcifeaalkdfaaGreatDoorD2
import Derived.Test.YtcbcifeaalkdfaaGreatDoorD4
set_option linter.unusedVariables false
set_option linter.unusedSimpArgs false
set_option linter.unusedSectionVars false
section
set_option maxRecDepth 20000
namespace Go.U
open Go
theorem f64_eq {c:TCongr} (h:CR c) (v:Int):f64_m (c,v)=some (hasc c v):=by
 unfold f64_m f64_c hasc
 cases hb:c.1
 · obtain ⟨a0,a1,a2,a3,a4,a5⟩:=h.bounds hb
   simp only [cond_false,Bool.not_false,Bool.true_and]
   by_cases h1:v< -2147483648
   · have:¬ -2147483648≤v:=by omega
     simp [h1,this]
   · by_cases h2:2147483647<v
     · have:¬ v≤2147483647:=by omega
       simp [h1,h2,this]
     · have e1: -2147483648≤v:=by omega
       have e2:v≤2147483647:=by omega
       simp only [h1,h2,e1,e2,decide_true,decide_false,cond_false,Bool.true_and]
       by_cases h0:c.2.1=0
       · simp [h0]
       · obtain ⟨r1,r2,r3⟩:=h.rem hb h0
         simp only [h0,decide_false,cond_false,if_false]
         rw [wu64_of (n:=c.2.1) a0 (by omega),wu64_of (n:=c.2.2) r2 (by omega),f117_eq (by omega) (by omega) (by omega) (by omega)]
         rfl
 · simp
end Go.U
end
section
set_option maxRecDepth 20000
namespace Go.U
open Go
theorem dvd_emod {m a b:Int} (h:m ∣ a-b):a%m=b%m:=Int.emod_eq_emod_iff_emod_sub_eq_zero.2 (Int.emod_eq_zero_of_dvd h)
theorem emod_dvd {m a b:Int} (h:a%m=b%m):m ∣ a-b:=Int.dvd_of_emod_eq_zero (Int.emod_eq_emod_iff_emod_sub_eq_zero.1 h)
theorem nf_one {m x y z:Int} (hm:0<m) (h:nf m x=(false,(0,y))) (hz0: -2147483648≤z) (hz1:z≤2147483647) (hd:m ∣ z-x):z=y:=by
 have hm0:m≠0:=by omega
 unfold nf at h
 rw [if_neg hm0] at h
 split at h
 · simp at h
 · rename_i g1
   split at h
   · rename_i g2
     simp only [Prod.mk.injEq,true_and] at h
     have e:(z+2147483648)%m=(x+2147483648)%m:=dvd_emod (by rw [show z+2147483648-(x+2147483648)=z-x by omega];exact hd)
     have e2:=Int.emod_add_mul_ediv (z+2147483648) m
     have q0:0≤(z+2147483648)/m:=Int.ediv_nonneg (by omega) (by omega)
     unfold lo31 at g1 g2 h
     rw [e] at e2
     generalize (z+2147483648)/m=q at e2 q0
     by_cases hq:q=0
     · subst hq;rw [Int.mul_zero] at e2;omega
     · have:m * 1≤m * q:=Int.mul_le_mul_of_nonneg_left (by omega) (by omega)
       rw [Int.mul_one] at this;omega
   · simp only [Prod.mk.injEq,true_and] at h;omega
theorem CR.two {c:TCongr} (h:CR c) (h1:c.1=false) (h0:c.2.1≠0):∃ z w:Int,z≠w∧ -2147483648≤z∧z≤2147483647∧ -2147483648≤w∧w≤2147483647∧c.2.1 ∣ z-c.2.2∧c.2.1 ∣ w-c.2.2:=by
 obtain ⟨e1,e2,e3⟩:=show c.1=false∧0≤c.2.1∧nf c.2.1 c.2.2=c by
   rcases h with rfl|h
   · simp at h1
   · exact h
 obtain ⟨b,m,x⟩:=c
 simp only at h0 e1 e2 e3 ⊢
 subst e1
 obtain ⟨k,l1,l2,l3⟩:=lo31_eq (m:=m) (x:=x) (by omega)
 unfold nf at e3
 rw [if_neg h0] at e3
 split at e3
 · simp at e3
 · split at e3
   · simp only [Prod.mk.injEq,true_and] at e3;omega
   · simp only [Prod.mk.injEq,true_and] at e3
     have d:m ∣ lo31 m x-x:=by
      rw [l1,e3];exact ⟨-k,by rw [Int.mul_neg];omega⟩
     refine ⟨lo31 m x,lo31 m x+m,by omega,l2,by omega,by omega,by omega,d,?_⟩
     rw [show lo31 m x+m-x=(lo31 m x-x)+m by omega]
     exact Int.dvd_add d (Int.dvd_refl m)
theorem nf_mod {m x n r:Int} (h:nf m x=(false,(n,r))) (hn:n≠0):m=n∧x%n=r:=by
 unfold nf at h
 split at h
 · split at h
   · simp only [Prod.mk.injEq,true_and] at h;omega
   · simp at h
 · split at h
   · simp at h
   · split at h
     · simp only [Prod.mk.injEq,true_and] at h;omega
     · simp only [Prod.mk.injEq,true_and] at h
       obtain ⟨rfl,h⟩:=h;exact ⟨rfl,h⟩
def leqr (a b:TCongr):Bool:=cond a.1 true (cond b.1 false (if a.2.1=0 then hasc b a.2.2 else (!(decide (b.2.1=0))&&(decide (b.2.1 ∣ a.2.1)&&decide (b.2.1 ∣ a.2.2-b.2.2)))))
theorem leq_one {a b:TCongr} (ha:CR a) (hb:CR b) (h1:a.1=false) (h2:b.1=false):joinc a b=b↔leqr a b=true:=by
 obtain ⟨b1,m1,r1⟩:=a
 obtain ⟨b2,m2,r2⟩:=b
 simp only at h1 h2
 subst h1;subst h2
 have ha2:=ha.two rfl;have hb2:=hb.rem rfl
 obtain ⟨M1,rfl,p1,p2,p3,p4,p5⟩:=ha.nums
 obtain ⟨M2,rfl,q1,q2,q3,q4,q5⟩:=hb.nums
 simp only at ha2 hb2
 unfold joinc leqr hasc
 simp only [cond_false,Int.natAbs_natCast,Bool.not_false,Bool.true_and]
 have hgd:((Nat.gcd (Nat.gcd M1 M2) (r1-r2).natAbs:Nat):Int) ∣ r1-r2:=Int.dvd_natAbs.1 (Int.natCast_dvd_natCast.2 (Nat.gcd_dvd_right _ _))
 have hg1:((Nat.gcd (Nat.gcd M1 M2) (r1-r2).natAbs:Nat):Int) ∣ (M1:Int):=Int.natCast_dvd_natCast.2 (Nat.dvd_trans (Nat.gcd_dvd_left _ _) (Nat.gcd_dvd_left _ _))
 by_cases c2:M2=0
 · subst c2
   have q6:=q5 rfl
   constructor
   · intro h
     have hG:Nat.gcd (Nat.gcd M1 0) (r1-r2).natAbs=0:=by
       rcases Nat.eq_zero_or_pos (Nat.gcd (Nat.gcd M1 0) (r1-r2).natAbs) with hz|hp
       · exact hz
       · exfalso
         have key:∀ z:Int,-2147483648≤z→z≤2147483647→((Nat.gcd (Nat.gcd M1 0) (r1-r2).natAbs:Nat):Int) ∣ z-r1→z=r2:=fun z z0 z1 hd=>nf_one (by omega) h z0 z1 hd
         by_cases c1:M1=0
         · subst c1
           have e:=key r1 p2 (p5 rfl) (by rw [Int.sub_self];exact Int.dvd_zero _)
           subst e
           simp at hp
         · obtain ⟨z,w,k1,k2,k3,k4,k5,k6,k7⟩:=ha2 (by omega)
           exact k1 ((key z k2 k3 (Int.dvd_trans hg1 k6)).trans (key w k4 k5 (Int.dvd_trans hg1 k7)).symm)
     have h3:=Nat.eq_zero_of_gcd_eq_zero_left hG
     have h4:=Nat.eq_zero_of_gcd_eq_zero_right hG
     rw [Nat.gcd_zero_right] at h3
     subst h3
     have e:r1=r2:=Int.sub_eq_zero.1 (Int.natAbs_eq_zero.1 h4)
     subst e
     have p6:=p5 rfl
     simp [p2,p6]
   · intro h
     by_cases c1:M1=0
     · subst c1
       simp at h
       obtain ⟨_,rfl⟩:=h
       simp only [Int.sub_self,Int.natAbs_zero,Nat.gcd_zero_right,Nat.gcd_self]
       exact q4
     · simp [c1] at h
 · have c2':(M2:Int)≠0:=by omega
   obtain ⟨e1,e2,e3⟩:=hb2 c2'
   constructor
   · intro h
     obtain ⟨g1,g2⟩:=nf_mod h c2'
     rw [g1] at hgd hg1
     by_cases c1:M1=0
     · subst c1
       have p6:=p5 rfl
       simp [p2,p6,c2,g2]
     · simp [c1,c2,hg1,hgd]
   · intro h
     have hd:(M2:Int) ∣ (M1:Int)∧(M2:Int) ∣ r1-r2:=by
       by_cases c1:M1=0
       · subst c1
         simp [c2] at h
         exact ⟨Int.dvd_zero _,emod_dvd (by rw [h.2];exact e1)⟩
       · simp [c1,c2] at h
         exact h
     have hG:Nat.gcd (Nat.gcd M1 M2) (r1-r2).natAbs=M2:=by
       rw [Nat.gcd_eq_right (Int.natCast_dvd_natCast.1 hd.1)]
       exact Nat.gcd_eq_left (Int.natCast_dvd_natCast.1 (Int.dvd_natAbs.2 hd.2))
     rw [hG,nf_emod (dvd_emod hd.2) c2',q4]
def eqb (a b:TCongr):Bool:=(a.1==b.1)&&((decide (a.2.1=b.2.1))&&((decide (a.2.2=b.2.2))&&true))
theorem eqb_eq {a b:TCongr}:eqb a b=decide (a=b):=by
 obtain ⟨a1,a2,a3⟩:=a
 obtain ⟨b1,b2,b3⟩:=b
 unfold eqb
 by_cases h1:a1=b1<;>by_cases h2:a2=b2<;>by_cases h3:a3=b3<;>simp [h1,h2,h3]
theorem f27_eq {a b:TCongr} (ha:CR a) (hb:CR b):f27_m (a,b)=some (leqr a b):=by
 unfold f27_m f27_c
 cases h1:a.1
 · cases h2:b.1
   · simp only [cond_false,Bool.not_false,cond_true]
     rw [(join_eq ha hb).1]
     simp only [Option.bind_some]
     have e:eqb (joinc a b) b=leqr a b:=by
      rw [eqb_eq]
      cases h3:leqr a b
      · exact decide_eq_false fun e=>by rw [(leq_one ha hb h1 h2).1 e] at h3;cases h3
      · exact decide_eq_true ((leq_one ha hb h1 h2).2 h3)
     rw [← e,← h2];rfl
   · simp [leqr,h1,h2]
 · simp [leqr,h1]
end Go.U
end
section
set_option maxRecDepth 20000
namespace Go.U
open Go
theorem range_gx {α:Type} {l:List α} {d:α}:(List.range l.length).map (fun j=>gx l j d)=l:=by
 refine List.ext_getElem (by simp) fun i h1 h2=> ?_
 simp [gx,List.getD,List.getElem?_eq_getElem h2]
theorem gx_map {α:Type} {n:Nat} {F:Nat→α} {d:α} {i:Nat} (h:i<n):gx ((List.range n).map F) i d=F i:=by simp [gx,List.getD,h]
theorem len24 {n:Nat} (h:n≤1048576):(decide (n * 24≤70368744177664)&&decide (n<9223372036854775808))=true:=by simp;omega
theorem loop_build {n:Nat} (hn:n≤1048576) {F:Nat→TCongr} {step:Int×List TCongr→Option ((Int×List TCongr) ⊕ List TCongr)} (hs:∀ (i:Nat) (l:List TCongr),i<n→l.length=i→step ((i:Int),l)=some (.inl (wi64 ((i:Int)+1),l++[F i])))
  (he:∀ l,step ((n:Int),l)=some (.inr l)):loopAll step (0,[])=some ((List.range n).map F):=
 loop_run (n:=n) (fun i=>((i:Int),(List.range i).map F)) _ (by omega) (fun t=>n-t.1.toNat) (fun i hi=>by simp) (fun i hi=>by
  rw [hs i _ hi (by simp),wi64_of (by omega) (by omega),List.range_succ,List.map_append];rfl) (he _)
def stepL (a:List TCongr) (F:Nat→TCongr) (n i:Nat):List TCongr:=(List.range n).map fun j=>if j<i then F j else gx a j dCongr
theorem stepL_len {a:List TCongr} {F:Nat→TCongr} {n i:Nat}:(stepL a F n i).length=n:=by simp [stepL]
theorem stepL_at {a:List TCongr} {F:Nat→TCongr} {n i:Nat} (h:i<n):gx (stepL a F n i) i dCongr=gx a i dCongr:=by
 unfold stepL;rw [gx_map h,if_neg (Nat.lt_irrefl _)]
theorem stepL_set {a:List TCongr} {F:Nat→TCongr} {n i:Nat} (h:i<n):List.set (stepL a F n i) i (F i)=stepL a F n (i+1):=by
 refine List.ext_getElem (by simp [stepL]) fun k h1 h2=> ?_
 rw [List.getElem_set]
 simp only [stepL,List.getElem_map,List.getElem_range]
 by_cases hk:i=k
 · subst hk;simp
 · rw [if_neg hk]
   by_cases h3:k<i
   · rw [if_pos h3,if_pos (by omega)]
   · rw [if_neg h3,if_neg (by omega)]
theorem stepL_zero {a:List TCongr} {F:Nat→TCongr}:stepL a F a.length 0=a:=by
 refine Eq.trans ?_ (range_gx (d:=dCongr))
 exact List.map_congr_left fun j hj=>if_neg (Nat.not_lt_zero _)
theorem stepL_all {a:List TCongr} {F:Nat→TCongr} {n:Nat}:stepL a F n n=(List.range n).map F:=
 List.map_congr_left fun j hj=>if_pos (List.mem_range.1 hj)
theorem loop_set {a:List TCongr} (hn:a.length≤1048576) {F:Nat→TCongr} {step:Int×List TCongr→Option ((Int×List TCongr) ⊕ List TCongr)} (hs:∀ (i:Nat) (l:List TCongr),i<a.length→l.length=a.length→gx l i dCongr=gx a i dCongr→step ((i:Int),l)=some (.inl (wi64 ((i:Int)+1),List.set l i (F i))))
  (he:∀ l,l.length=a.length→step ((a.length:Int),l)=some (.inr l)):loopAll step (0,a)=some ((List.range a.length).map F):=by
 have:=loop_run (n:=a.length) (step:=step) (fun i=>((i:Int),stepL a F a.length i)) ((List.range a.length).map F) (by omega) (fun t=>a.length-t.1.toNat) (fun i hi=>by simp) (fun i hi=>by
  rw [hs i _ hi stepL_len (stepL_at hi),wi64_of (by omega) (by omega),stepL_set hi];rfl) (by rw [he _ stepL_len,stepL_all])
 simp only [stepL_zero] at this
 exact this
def joinL (a b:List TCongr):List TCongr:=(List.range a.length).map fun i=>joinc (gx a i dCongr) (gx b i dCongr)
structure Pair (a b:List TCongr):Prop where
 n:a.length≤1048576
 e:a.length=b.length
 ca:∀ i,i<a.length→CR (gx a i dCongr)
 cb:∀ i,i<a.length→CR (gx b i dCongr)
theorem y260009_eq {a l:List TCongr} {i:Nat} {c:TCongr} (h1:CR (gx a i dCongr)) (h2:CR c) (e:gx l i dCongr=gx a i dCongr):y260009_m (i,c,l)=some (List.set l i (joinc (gx a i dCongr) c)):=by
 unfold y260009_m y260009_c
 simp only
 rw [e,(join_eq h1 h2).1];rfl
def leqL (a b:List TCongr):Bool:=(List.range a.length).all fun i=>leqr (gx a i dCongr) (gx b i dCongr)
theorem leqr_self {c:TCongr} (h:CR c):leqr c c=true:=by
 unfold leqr
 cases h1:c.1
 · simp only [cond_false]
   obtain ⟨a0,a1,a2,a3,a4,a5⟩:=h.bounds h1
   by_cases h0:c.2.1=0
   · have:=a5 h0
     simp [hasc,h1,h0,a2,this]
   · simp [h0]
 · rfl
theorem leqL_self {a:List TCongr} (h:Pair a a):leqL a a=true:=List.all_eq_true.2 fun i hi=>leqr_self (h.ca i (List.mem_range.1 hi))
structure PairM (a b:TMods):Prop where
 v:Pair a.2.1 b.2.1
 w:Pair a.2.2 b.2.2
def leqM (a b:TMods):Bool:=cond a.1 (cond b.1 (leqL a.2.1 b.2.1&&leqL a.2.2 b.2.2) false) true
def joinM (a b:TMods):TMods:=cond a.1 (cond b.1 (true,(joinL a.2.1 b.2.1,joinL a.2.2 b.2.2)) a) b
structure Small (a:TMods):Prop where
 v:a.2.1.length≤1048576
 w:a.2.2.length≤1048576
end Go.U
end
section
set_option maxRecDepth 20000
namespace Go.U
open Go
def initS (g:TGraph):List TCongr:=(List.range (scs g).length).map fun i=>nf 0 (gx (scs g) i dScalar).2.2
def initA (g:TGraph):List TCongr:=(List.range (inps g).length).map fun i=>nf 0 (gx (inps g) i dArray).2.2.2
theorem p70_eq (x:Int):f70_m x=some (nf 0 x):=by
 unfold f70_m f70_c
 have h:f122_m (0,x)=some (nf 0 x):=f127_to x
 rw [h];rfl
structure InitOK (g:TGraph):Prop where
 s:(scs g).length≤1048576
 a:(inps g).length≤1048576
 si:∀ i,i<(scs g).length→I64 (gx (scs g) i dScalar).2.2
 ai:∀ i,i<(inps g).length→I64 (gx (inps g) i dArray).2.2.2
theorem f32_eq {g:TGraph} (h:InitOK g):f32_m g=some (initS g,initA g):=by
 unfold f32_m f32_c
 rw [loop_build (n:=(scs g).length) (F:=fun i=>nf 0 (gx (scs g) i dScalar).2.2) h.s (fun i l hi hl=>by
  have h':(i:Int)<((scs g).length:Int):=by omega
  have hs:=h.s
  simp only [LD.m,f32_l3,nt,h',decide_true,cond_true,inR hi,ask_true,Int.toNat_natCast]
  rw [p70_eq]
  simp only [Option.bind_some,List.length_singleton]
  rw [len24 (by omega),ask_true]) (fun l=>by
  simp only [LD.m,f32_l3,nt,Int.lt_irrefl,decide_false,cond_false])]
 simp only [Option.bind_some]
 rw [loop_build (n:=(inps g).length) (F:=fun i=>nf 0 (gx (inps g) i dArray).2.2.2) h.a (fun i l hi hl=>by
  have h':(i:Int)<((inps g).length:Int):=by omega
  have hs:=h.a
  simp only [LD.m,f32_l8,nt,h',decide_true,cond_true,inR hi,ask_true,Int.toNat_natCast]
  rw [p70_eq]
  simp only [Option.bind_some,List.length_singleton]
  rw [len24 (by omega),ask_true]) (fun l=>by
  simp only [LD.m,f32_l8,nt,Int.lt_irrefl,decide_false,cond_false])]
 rfl
end Go.U
end
section
set_option maxRecDepth 20000
namespace Go.U
open Go
def fitc (c:TCongr):Bool:=cond c.1 (decide (c.2.1=0)&&decide (c.2.2=0)) (decide (0≤c.2.1)&&eqb (nf c.2.1 c.2.2) c)
def goodc (c:TCongr):Bool:= !c.1&&fitc c
def goods (l:List TCongr):Bool:=(List.range l.length).all fun i=>goodc (gx l i dCongr)
theorem p82_eq {c:TCongr} (h:CI c) (hb:c.1=false):f82_m c=some (fitc c):=by
 obtain ⟨⟨h1,h2⟩,h3,h4⟩:=h
 unfold f82_m f82_c fitc
 rw [hb]
 simp only [cond_false]
 by_cases hm:0≤c.2.1
 · simp only [hm,decide_true,cond_true,Bool.true_and]
   rw [f71_eq h1 h2 h3 h4,show (c.2.1.natAbs:Int)=c.2.1 by omega]
   simp only [Option.bind_some]
   obtain ⟨b,m,x⟩:=c
   simp only at hb
   subst hb
   unfold eqb
   rcases nf m x with ⟨b1,m1,x1⟩
   have e1:decide (m=m1)=decide (m1=m):=decide_eq_decide.2 eq_comm
   have e2:decide (x=x1)=decide (x1=x):=decide_eq_decide.2 eq_comm
   cases b1<;>simp only [e1,e2]<;>rfl
 · simp [hm]
theorem p44_eq {l:List TCongr} {n:Int} (hl:l.length≤9223372036854775807) (hc:∀ c∈l,CI c):f44_m (l,n)=some (decide ((l.length:Int)=n)&&goods l):=by
 unfold f44_m f44_c
 simp only [nt]
 by_cases hn:(l.length:Int)=n
 · subst hn
   simp only [decide_true,Bool.not_true,cond_false,Bool.true_and]
   rw [loop_all (n:=l.length) hl (p:=fun i=>goodc (gx l i dCongr)) (fun i hi=>by
    have h':(i:Int)<(l.length:Int):=by omega
    simp only [LD.m,f44_l4,h',decide_true,cond_true,inR hi,ask_true,Int.toNat_natCast]
    unfold goodc
    cases hb:(gx l i dCongr).1
    · simp only [cond_false]
      rw [p82_eq (hc _ (List.mem_of_getElem? (gx_lt hi))) hb]
      simp only [Option.bind_some,Bool.not_false,Bool.true_and]
      cases fitc (gx l i dCongr)<;>rfl
    · rfl) (by
    simp only [LD.m,f44_l4,Int.lt_irrefl,decide_false,cond_false])]
   simp only [Option.bind_some]
   show _=some (goods l)
   unfold goods
   cases (List.range l.length).all fun i=>goodc (gx l i dCongr)<;>rfl
 · simp [hn]
def fitM (g:TGraph) (s:TMods):Bool:=cond s.1 (decide ((s.2.1.length:Int)=(scs g).length)&&(decide ((s.2.2.length:Int)=(inps g).length)&&(goods s.2.1&&goods s.2.2))) (decide ((s.2.1.length:Int)=0)&&decide ((s.2.2.length:Int)=0))
theorem f11_ex {g:TGraph} {s:TMods} (h:LensM s):f11_m (g,s)=some (fitM g s):=by
 unfold f11_m f11_c fitM
 cases hb:s.1
 · simp only [Bool.not_false,cond_true,cond_false,nt]
   by_cases e1:(s.2.1.length:Int)=0
   · simp [e1]
   · have e2:¬ s.2.1=[]:=fun e=>e1 (by rw [e];rfl)
     simp [e2]
 · simp only [Bool.not_true,cond_true,cond_false,nt]
   rw [p44_eq h.a h.ca]
   simp only [Option.bind_some]
   by_cases e1:(s.2.1.length:Int)=(List.length g.2.2.2.2.2.1:Int)
   · simp only [e1,decide_true,Bool.true_and]
     cases goods s.2.1
     · simp
     · simp only [cond_true,Bool.true_and]
       rw [p44_eq h.b h.cb];rfl
   · simp [e1]
end Go.U
end
section
set_option maxRecDepth 20000
namespace Go.U
open Go
def mem (c:TCongr) (z:Int):Prop:=c.1=false∧ -2147483648≤z∧z≤2147483647∧c.2.1 ∣ z-c.2.2
theorem lo_dvd {m x:Int} (hm:0<m):m ∣ lo31 m x-x:=by
 obtain ⟨k,h,_,_⟩:=lo31_eq (m:=m) (x:=x) hm
 have e:=Int.emod_add_mul_ediv x m
 exact ⟨-(x/m)-k,by rw [h,Int.mul_sub,Int.mul_neg];omega⟩
theorem lo_le {m x z:Int} (hm:0<m) (hz: -2147483648≤z) (hd:m ∣ z-x):lo31 m x≤z:=by
 have e:(z+2147483648)%m=(x+2147483648)%m:=dvd_emod (by rw [show z+2147483648-(x+2147483648)=z-x by omega];exact hd)
 have e2:=Int.emod_add_mul_ediv (z+2147483648) m
 have q0:0≤m * ((z+2147483648)/m):=Int.mul_nonneg (by omega) (Int.ediv_nonneg (by omega) (by omega))
 unfold lo31;omega
theorem dvd_swap {m a b c:Int} (h:m ∣ b-c):m ∣ a-b↔m ∣ a-c:=by
 constructor
 · intro k;rw [show a-c=(a-b)+(b-c) by omega];exact Int.dvd_add k h
 · intro k;rw [show a-b=(a-c)-(b-c) by omega];exact Int.dvd_sub k h
theorem mem_nf {m x z:Int} (hm:0≤m):mem (nf m x) z↔ -2147483648≤z∧z≤2147483647∧m ∣ z-x:=by
 unfold mem
 by_cases h0:m=0
 · subst h0
   unfold nf
   simp only [if_true]
   by_cases hx: -2147483648≤x∧x≤2147483647
   · rw [if_pos hx];exact ⟨fun h=>h.2,fun h=>⟨rfl,h⟩⟩
   · rw [if_neg hx]
     refine ⟨fun h=>(by cases h.1),fun ⟨h1,h2,h3⟩=>absurd ?_ hx⟩
     have:=Int.zero_dvd.1 h3
     omega
 · have hp:0<m:=by omega
   have hlo:=lo_dvd (x:=x) hp
   obtain ⟨k,_,l2,l3⟩:=lo31_eq (m:=m) (x:=x) hp
   unfold nf
   rw [if_neg h0]
   split
   · rename_i g1
     refine ⟨fun h=>(by cases h.1),fun ⟨h1,h2,h3⟩=> ?_⟩
     have:=lo_le hp h1 h3
     omega
   · rename_i g1
     split
     · rename_i g2
       simp only [true_and]
       constructor
       · rintro ⟨h1,h2,h3⟩
         have h3:=Int.zero_dvd.1 h3
         have:z=lo31 m x:=by omega
         subst this;exact ⟨h1,h2,hlo⟩
       · rintro ⟨h1,h2,h3⟩
         refine ⟨h1,h2,?_⟩
         have:=nf_one (y:=lo31 m x) hp (by unfold nf;rw [if_neg h0,if_neg g1,if_pos g2]) h1 h2 h3
         subst this;rw [Int.sub_self];exact Int.dvd_zero _
     · simp only [true_and]
       have:m ∣ x%m-x:=⟨-(x/m),by have:=Int.emod_add_mul_ediv x m;rw [Int.mul_neg];omega⟩
       exact and_congr_right fun _=>and_congr_right fun _=>dvd_swap this
theorem CR.step {c:TCongr} (h:CR c) (h1:c.1=false):∃ z:Int,-2147483648≤z∧z+c.2.1≤2147483647∧c.2.1 ∣ z-c.2.2:=by
 obtain ⟨e1,e2,e3⟩:=show c.1=false∧0≤c.2.1∧nf c.2.1 c.2.2=c by
   rcases h with rfl|h
   · simp at h1
   · exact h
 obtain ⟨b,m,x⟩:=c
 simp only at e1 e2 e3 ⊢
 subst e1
 by_cases h0:m=0
 · subst h0
   unfold nf at e3
   simp only [if_true] at e3
   split at e3
   · rename_i g;exact ⟨x,g.1,by omega,by rw [Int.sub_self];exact Int.dvd_zero _⟩
   · simp at e3
 · obtain ⟨k,l1,l2,l3⟩:=lo31_eq (m:=m) (x:=x) (by omega)
   have d:=lo_dvd (x:=x) (show 0<m by omega)
   unfold nf at e3
   rw [if_neg h0] at e3
   split at e3
   · simp at e3
   · split at e3
     · simp only [Prod.mk.injEq,true_and] at e3;omega
     · exact ⟨_,l2,by omega,d⟩
theorem hasc_mem {c:TCongr} (h:CR c) (v:Int):hasc c v=true↔mem c v:=by
 unfold hasc mem
 cases h1:c.1
 · simp only [Bool.not_false,Bool.true_and,Bool.and_eq_true,decide_eq_true_eq,true_and,and_assoc]
   refine and_congr_right fun _=>and_congr_right fun _=> ?_
   by_cases h0:c.2.1=0
   · simp only [h0,if_true,decide_eq_true_eq,Int.zero_dvd];omega
   · obtain ⟨r1,r2,r3⟩:=h.rem h1 h0
     simp only [h0,if_false,decide_eq_true_eq]
     constructor
     · intro e;exact emod_dvd (by rw [e];exact r1)
     · intro e;rw [dvd_emod e];exact r1.symm
 · simp
theorem leq_mem {a b:TCongr} (ha:CR a) (hb:CR b):leqr a b=true↔∀ z,mem a z→mem b z:=by
 unfold leqr
 cases h1:a.1
 · simp only [cond_false]
   obtain ⟨a0,_,a2,_,_,a5⟩:=ha.bounds h1
   obtain ⟨z0,k1,k2,k3⟩:=ha.step h1
   cases h2:b.1
   · simp only [cond_false]
     by_cases h0:a.2.1=0
     · have m0:mem a a.2.2:=⟨h1,a2,a5 h0,by rw [Int.sub_self];exact Int.dvd_zero _⟩
       simp only [h0,if_true]
       rw [hasc_mem hb]
       constructor
       · rintro h z ⟨_,_,_,z3⟩
         rw [h0] at z3
         have:=Int.zero_dvd.1 z3
         have:z=a.2.2:=by omega
         subst this;exact h
       · intro h;exact h _ m0
     · simp only [h0,if_false,Bool.and_eq_true,Bool.not_eq_true',decide_eq_true_eq,decide_eq_false_iff_not]
       constructor
       · rintro ⟨_,d1,d2⟩ z ⟨_,z1,z2,z3⟩
         exact ⟨h2,z1,z2,(dvd_swap d2).1 (Int.dvd_trans d1 z3)⟩
       · intro h
         obtain ⟨_,_,_,e1⟩:=h z0 ⟨h1,k1,by omega,k3⟩
         obtain ⟨_,_,_,e2⟩:=h (z0+a.2.1) ⟨h1,by omega,k2,by rw [show z0+a.2.1-a.2.2=(z0-a.2.2)+a.2.1 by omega];exact Int.dvd_add k3 (Int.dvd_refl _)⟩
         have d1:b.2.1 ∣ a.2.1:=by
          have:=Int.dvd_sub e2 e1
          rw [show z0+a.2.1-b.2.2-(z0-b.2.2)=a.2.1 by omega] at this;exact this
         refine ⟨fun e=>h0 (Int.zero_dvd.1 (e ▸ d1)),d1,?_⟩
         have:=Int.dvd_sub e1 (Int.dvd_trans d1 k3)
         rw [show z0-b.2.2-(z0-a.2.2)=a.2.2-b.2.2 by omega] at this;exact this
   · simp only [cond_true]
     refine ⟨fun h=>(by cases h),fun h=> ?_⟩
     have:=(h z0 ⟨h1,k1,by omega,k3⟩).1
     rw [h2] at this;cases this
 · simp only [cond_true]
   exact ⟨fun _ z hz=>(by have:=hz.1;rw [h1] at this;cases this),fun _=>trivial⟩
theorem le_trans' {a b c:TCongr} (ha:CR a) (hb:CR b) (hc:CR c) (h:leqr a b=true) (h':leqr b c=true):leqr a c=true:=
 (leq_mem ha hc).2 fun z hz=>(leq_mem hb hc).1 h' z ((leq_mem ha hb).1 h z hz)
theorem le_div {a b:TCongr} (ha:CR a) (hb:CR b) (h:leqr a b=true) (h1:a.1=false):b.1=false∧b.2.1 ∣ a.2.1∧b.2.1 ∣ a.2.2-b.2.2:=by
 have h':=(leq_mem ha hb).1 h
 obtain ⟨a0,_,a2,_,_,a5⟩:=ha.bounds h1
 obtain ⟨z0,k1,k2,k3⟩:=ha.step h1
 obtain ⟨e0,_,_,e1⟩:=h' z0 ⟨h1,k1,by omega,k3⟩
 obtain ⟨_,_,_,e2⟩:=h' (z0+a.2.1) ⟨h1,by omega,k2,by rw [show z0+a.2.1-a.2.2=(z0-a.2.2)+a.2.1 by omega];exact Int.dvd_add k3 (Int.dvd_refl _)⟩
 have d1:b.2.1 ∣ a.2.1:=by
  have:=Int.dvd_sub e2 e1
  rw [show z0+a.2.1-b.2.2-(z0-b.2.2)=a.2.1 by omega] at this;exact this
 refine ⟨e0,d1,?_⟩
 have:=Int.dvd_sub e1 (Int.dvd_trans d1 k3)
 rw [show z0-b.2.2-(z0-a.2.2)=a.2.2-b.2.2 by omega] at this;exact this
theorem cls {m r m' r':Int} (hm:0≤m) (hm':0≤m') (h1:m' ∣ m) (h2:m' ∣ r-r'):leqr (nf m r) (nf m' r')=true:=
 (leq_mem (nf_cr hm) (nf_cr hm')).2 fun z hz=>by
  obtain ⟨z1,z2,z3⟩:=(mem_nf hm).1 hz
  exact (mem_nf hm').2 ⟨z1,z2,(dvd_swap h2).1 (Int.dvd_trans h1 z3)⟩
theorem leqr_refl {c:TCongr} (h:CR c):leqr c c=true:=(leq_mem h h).2 fun _ hz=>hz
theorem gdl (a b:Nat):((Nat.gcd a b:Nat):Int) ∣ (a:Int):=Int.natCast_dvd_natCast.2 (Nat.gcd_dvd_left _ _)
theorem gdr (a b:Nat):((Nat.gcd a b:Nat):Int) ∣ (b:Int):=Int.natCast_dvd_natCast.2 (Nat.gcd_dvd_right _ _)
theorem dgd {d:Int} {a b:Nat} (h1:d ∣ (a:Int)) (h2:d ∣ (b:Int)):d ∣ ((Nat.gcd a b:Nat):Int):=by
 have h1':d.natAbs ∣ a:=Int.natCast_dvd_natCast.1 (Int.natAbs_dvd.2 h1)
 have h2':d.natAbs ∣ b:=Int.natCast_dvd_natCast.1 (Int.natAbs_dvd.2 h2)
 exact Int.natAbs_dvd.1 (Int.natCast_dvd_natCast.2 (Nat.dvd_gcd h1' h2'))
theorem gcd_mono {a b a' b':Int} (h1:a' ∣ a) (h2:b' ∣ b):((Nat.gcd a'.natAbs b'.natAbs:Nat):Int) ∣ ((Nat.gcd a.natAbs b.natAbs:Nat):Int):=
 dgd (Int.dvd_natAbs.2 (Int.dvd_trans (Int.dvd_natAbs.1 (gdl _ _)) h1)) (Int.dvd_natAbs.2 (Int.dvd_trans (Int.dvd_natAbs.1 (gdr _ _)) h2))
end Go.U
end
section
set_option maxRecDepth 20000
namespace Go.U
open Go
theorem none_le (c:TCongr):leqr none31 c=true:=rfl
theorem le_all {c:TCongr} (h:CR c):leqr c (false,(1,0))=true:=(leq_mem h all_cr).2 fun z ⟨_,h1,h2,_⟩=>⟨rfl,h1,h2,Int.one_dvd _⟩
section
variable {x y x' y':TCongr} (hx:CR x) (hy:CR y) (hx':CR x') (hy':CR y') (h:leqr x x'=true) (h':leqr y y'=true)
include hx hx' h
theorem neg_mono:leqr (negc x) (negc x')=true:=by
 unfold negc
 cases h1:x.1
 · obtain ⟨e1,d1,d2⟩:=le_div hx hx' h h1
   simp only [e1,cond_false]
   refine cls (hx.bounds h1).1 (hx'.bounds e1).1 d1 ?_
   rw [show 0-x.2.2-(0-x'.2.2)= -(x.2.2-x'.2.2) by omega];exact Int.dvd_neg.2 d2
 · rfl
include hy hy' h'
theorem add_mono:leqr (addc x y) (addc x' y')=true:=by
 unfold addc
 cases h1:x.1
 · cases h2:y.1
   · obtain ⟨e1,d1,d2⟩:=le_div hx hx' h h1
     obtain ⟨e2,d3,d4⟩:=le_div hy hy' h' h2
     simp only [e1,e2,cond_false]
     refine cls (by omega) (by omega) (gcd_mono d1 d3) ?_
     rw [show x.2.2+y.2.2-(x'.2.2+y'.2.2)=(x.2.2-x'.2.2)+(y.2.2-y'.2.2) by omega]
     exact Int.dvd_add (Int.dvd_trans (Int.dvd_natAbs.1 (gdl _ _)) d2) (Int.dvd_trans (Int.dvd_natAbs.1 (gdr _ _)) d4)
   · rfl
 · rfl
theorem sub_mono:leqr (subc x y) (subc x' y')=true:=by
 unfold subc
 cases h1:x.1
 · cases h2:y.1
   · obtain ⟨e1,d1,d2⟩:=le_div hx hx' h h1
     obtain ⟨e2,d3,d4⟩:=le_div hy hy' h' h2
     simp only [e1,e2,cond_false]
     refine cls (by omega) (by omega) (gcd_mono d1 d3) ?_
     rw [show x.2.2-y.2.2-(x'.2.2-y'.2.2)=(x.2.2-x'.2.2)-(y.2.2-y'.2.2) by omega]
     exact Int.dvd_sub (Int.dvd_trans (Int.dvd_natAbs.1 (gdl _ _)) d2) (Int.dvd_trans (Int.dvd_natAbs.1 (gdr _ _)) d4)
   · rfl
 · rfl
end
theorem join_cr {x y:TCongr} (hx:CR x) (hy:CR y):CR (joinc x y):=(join_eq hx hy).2.2
theorem join_le {x y z:TCongr} (hx:CR x) (hy:CR y) (hz:CR z) (h1:leqr x z=true) (h2:leqr y z=true):leqr (joinc x y) z=true:=by
 unfold joinc
 cases k1:x.1
 · cases k2:y.1
   · obtain ⟨e1,d1,d2⟩:=le_div hx hz h1 k1
     obtain ⟨_,d3,d4⟩:=le_div hy hz h2 k2
     simp only [cond_false]
     rw [show leqr (nf _ x.2.2) z=leqr (nf _ x.2.2) (nf z.2.1 z.2.2) by rw [(hz.bounds e1).2.2.2.2.1]]
     refine cls (by omega) (hz.bounds e1).1 (dgd (dgd (Int.dvd_natAbs.2 d1) (Int.dvd_natAbs.2 d3)) (Int.dvd_natAbs.2 ?_)) d2
     rw [show x.2.2-y.2.2=(x.2.2-z.2.2)-(y.2.2-z.2.2) by omega]
     exact Int.dvd_sub d2 d4
   · exact h1
 · exact h2
theorem le_join {x y:TCongr} (hx:CR x) (hy:CR y):leqr x (joinc x y)=true∧leqr y (joinc x y)=true:=by
 unfold joinc
 cases k1:x.1
 · cases k2:y.1
   · simp only [cond_false]
     have g1:((Nat.gcd (Nat.gcd x.2.1.natAbs y.2.1.natAbs) (x.2.2-y.2.2).natAbs:Nat):Int) ∣ x.2.1:=Int.dvd_natAbs.1 (Int.dvd_trans (gdl _ _) (gdl _ _))
     have g2:((Nat.gcd (Nat.gcd x.2.1.natAbs y.2.1.natAbs) (x.2.2-y.2.2).natAbs:Nat):Int) ∣ y.2.1:=Int.dvd_natAbs.1 (Int.dvd_trans (gdl _ _) (gdr _ _))
     have g3:((Nat.gcd (Nat.gcd x.2.1.natAbs y.2.1.natAbs) (x.2.2-y.2.2).natAbs:Nat):Int) ∣ x.2.2-y.2.2:=Int.dvd_natAbs.1 (gdr _ _)
     refine ⟨(leq_mem hx (nf_cr (by omega))).2 fun z ⟨_,z1,z2,z3⟩=>(mem_nf (by omega)).2 ⟨z1,z2,Int.dvd_trans g1 z3⟩,(leq_mem hy (nf_cr (by omega))).2 fun z ⟨_,z1,z2,z3⟩=>(mem_nf (by omega)).2 ⟨z1,z2,?_⟩⟩
     rw [show z-x.2.2=(z-y.2.2)-(x.2.2-y.2.2) by omega]
     exact Int.dvd_sub (Int.dvd_trans g2 z3) g3
   · refine ⟨leqr_refl hx,?_⟩
     rw [hy.true k2];rfl
 · refine ⟨?_,leqr_refl hy⟩
   rw [hx.true k1];rfl
section
variable {x y x' y':TCongr} (hx:CR x) (hy:CR y) (hx':CR x') (hy':CR y') (h:leqr x x'=true) (h':leqr y y'=true)
include hx hy hx' hy' h h'
theorem join_mono:leqr (joinc x y) (joinc x' y')=true:=by
 obtain ⟨a,b⟩:=le_join hx' hy'
 have c:=join_cr hx' hy'
 exact join_le hx hy c (le_trans' hx hx' c h a) (le_trans' hy hy' c h' b)
theorem jc_mono:leqr (jc x y) (jc x' y')=true:=by
 unfold jc
 cases h1:x.1
 · cases h2:y.1
   · rw [(le_div hx hx' h h1).1,(le_div hy hy' h' h2).1]
     exact join_mono hx hy hx' hy' h h'
   · rfl
 · rfl
end
theorem sgn_mul (a b:Int):cond (!((decide (a<(0:Int)))==(decide (b<(0:Int))))) (-((a.natAbs * b.natAbs:Nat):Int)) ((a.natAbs * b.natAbs:Nat):Int)=a * b:=by
 rw [Int.natCast_mul]
 rcases Int.lt_or_le a 0 with ha|ha<;>rcases Int.lt_or_le b 0 with hb|hb
 · have e1:(a.natAbs:Int)= -a:=by omega
   have e2:(b.natAbs:Int)= -b:=by omega
   simp [ha,hb,e1,e2,Int.neg_mul,Int.mul_neg]
 · have e1:(a.natAbs:Int)= -a:=by omega
   have e2:(b.natAbs:Int)=b:=by omega
   have hb':¬ b<0:=by omega
   simp [ha,hb',e1,e2,Int.neg_mul,Int.mul_neg]
 · have e1:(a.natAbs:Int)=a:=by omega
   have e2:(b.natAbs:Int)= -b:=by omega
   have ha':¬ a<0:=by omega
   simp [ha',hb,e1,e2,Int.neg_mul,Int.mul_neg]
 · have e1:(a.natAbs:Int)=a:=by omega
   have e2:(b.natAbs:Int)=b:=by omega
   have ha':¬ a<0:=by omega
   have hb':¬ b<0:=by omega
   simp [ha',hb',e1,e2,Int.neg_mul,Int.mul_neg]
theorem dvd_cast {d:Int} {a b:Int} (h:d ∣ a * b):d ∣ ((a.natAbs * b.natAbs:Nat):Int):=by
 rw [← Int.natAbs_mul];exact Int.dvd_natAbs.2 h
theorem cast_dvd {d:Int} {a b:Int} (h:d ∣ ((a.natAbs * b.natAbs:Nat):Int)):d ∣ a * b:=by
 rw [← Int.natAbs_mul] at h;exact Int.dvd_natAbs.1 h
section
variable {x y x' y':TCongr} (hx:CR x) (hy:CR y) (hx':CR x') (hy':CR y') (h:leqr x x'=true) (h':leqr y y'=true)
include hx hy hx' hy' h h'
theorem mul_mono:leqr (mulc x y) (mulc x' y')=true:=by
 unfold mulc
 cases h1:x.1
 · cases h2:y.1
   · obtain ⟨e1,⟨k,d1⟩,⟨u,d2⟩⟩:=le_div hx hx' h h1
     obtain ⟨e2,⟨l,d3⟩,⟨v,d4⟩⟩:=le_div hy hy' h' h2
     simp only [e1,e2,cond_false,sgn_mul]
     have G1:=cast_dvd (gdl (x'.2.1.natAbs * y'.2.1.natAbs) (Nat.gcd (x'.2.1.natAbs * y'.2.2.natAbs) (y'.2.1.natAbs * x'.2.2.natAbs)))
     have G2:=cast_dvd (Int.dvd_trans (gdr (x'.2.1.natAbs * y'.2.1.natAbs) (Nat.gcd (x'.2.1.natAbs * y'.2.2.natAbs) (y'.2.1.natAbs * x'.2.2.natAbs))) (gdl _ _))
     have G3:=cast_dvd (Int.dvd_trans (gdr (x'.2.1.natAbs * y'.2.1.natAbs) (Nat.gcd (x'.2.1.natAbs * y'.2.2.natAbs) (y'.2.1.natAbs * x'.2.2.natAbs))) (gdr _ _))
     have hg:(0:Int)≤((Nat.gcd (x'.2.1.natAbs * y'.2.1.natAbs) (Nat.gcd (x'.2.1.natAbs * y'.2.2.natAbs) (y'.2.1.natAbs * x'.2.2.natAbs)):Nat):Int):=by omega
     generalize ((Nat.gcd (x'.2.1.natAbs * y'.2.1.natAbs) (Nat.gcd (x'.2.1.natAbs * y'.2.2.natAbs) (y'.2.1.natAbs * x'.2.2.natAbs)):Nat):Int)=G at G1 G2 G3 hg ⊢
     have r1:x.2.2=x'.2.2+x'.2.1 * u:=by omega
     have r2:y.2.2=y'.2.2+y'.2.1 * v:=by omega
     refine cls (by omega) hg (dgd (dvd_cast ?_) (dgd (dvd_cast ?_) (dvd_cast ?_))) ?_
     · rw [d1,d3,show x'.2.1 * k * (y'.2.1 * l)=x'.2.1 * y'.2.1 * (k * l) by rw [Int.mul_assoc,Int.mul_left_comm k,← Int.mul_assoc]]
       exact Int.dvd_trans G1 (Int.dvd_mul_right _ _)
     · rw [d1,r2,Int.mul_add,show x'.2.1 * k * y'.2.2=x'.2.1 * y'.2.2 * k by rw [Int.mul_assoc,Int.mul_comm k,← Int.mul_assoc],show x'.2.1 * k * (y'.2.1 * v)=x'.2.1 * y'.2.1 * (k * v) by rw [Int.mul_assoc,Int.mul_left_comm k,← Int.mul_assoc]]
       exact Int.dvd_add (Int.dvd_trans G2 (Int.dvd_mul_right _ _)) (Int.dvd_trans G1 (Int.dvd_mul_right _ _))
     · rw [d3,r1,Int.mul_add,show y'.2.1 * l * x'.2.2=y'.2.1 * x'.2.2 * l by rw [Int.mul_assoc,Int.mul_comm l,← Int.mul_assoc],show y'.2.1 * l * (x'.2.1 * u)=x'.2.1 * y'.2.1 * (l * u) by rw [Int.mul_assoc,Int.mul_left_comm l,← Int.mul_assoc,Int.mul_comm y'.2.1]]
       exact Int.dvd_add (Int.dvd_trans G3 (Int.dvd_mul_right _ _)) (Int.dvd_trans G1 (Int.dvd_mul_right _ _))
     · rw [r1,r2,Int.add_mul,Int.mul_add,Int.mul_add]
       rw [show x'.2.2 * y'.2.2+x'.2.2 * (y'.2.1 * v)+(x'.2.1 * u * y'.2.2+x'.2.1 * u * (y'.2.1 * v))-x'.2.2 * y'.2.2=x'.2.2 * (y'.2.1 * v)+(x'.2.1 * u * y'.2.2+x'.2.1 * u * (y'.2.1 * v)) by omega]
       rw [show x'.2.2 * (y'.2.1 * v)=y'.2.1 * x'.2.2 * v by rw [← Int.mul_assoc,Int.mul_comm x'.2.2],show x'.2.1 * u * y'.2.2=x'.2.1 * y'.2.2 * u by rw [Int.mul_assoc,Int.mul_comm u,← Int.mul_assoc],show x'.2.1 * u * (y'.2.1 * v)=x'.2.1 * y'.2.1 * (u * v) by rw [Int.mul_assoc,Int.mul_left_comm u,← Int.mul_assoc]]
       exact Int.dvd_add (Int.dvd_trans G3 (Int.dvd_mul_right _ _)) (Int.dvd_add (Int.dvd_trans G2 (Int.dvd_mul_right _ _)) (Int.dvd_trans G1 (Int.dvd_mul_right _ _)))
   · rfl
 · rfl
end
theorem const_eq {a b:TCongr} (ha:CR a) (hb:CR b) (h:leqr a b=true) (h1:a.1=false) (h0:b.2.1=0):a=b:=by
 obtain ⟨e1,d1,d2⟩:=le_div ha hb h h1
 rw [h0] at d1 d2
 have:=Int.zero_dvd.1 d1;have:=Int.zero_dvd.1 d2
 obtain ⟨p,m,r⟩:=a
 obtain ⟨q,m',r'⟩:=b
 simp only at *
 subst h1;subst e1
 have:m=m':=by omega
 have:r=r':=by omega
 simp [*]
end Go.U
end
section
set_option maxRecDepth 20000
namespace Go.U
open Go
section
variable {x y x' y':TCongr} (hx:CR x) (hy:CR y) (hx':CR x') (hy':CR y') (h:leqr x x'=true) (h':leqr y y'=true)
include hx hx' h
theorem abs_mono:leqr (absc x) (absc x')=true:=by
 unfold absc
 cases h1:x.1
 · obtain ⟨e1,d1,d2⟩:=le_div hx hx' h h1
   simp only [e1,cond_false]
   have n1:=(neg_eq hx).2.2;have n2:=(neg_eq hx').2.2
   by_cases h0':x'.2.1=0
   · have e:=const_eq hx hx' h h1 h0'
     subst e
     simp only [h0',if_true]
     exact leqr_refl (nf_cr (Int.le_refl _))
   · simp only [h0',if_false]
     by_cases h0:x.2.1=0
     · simp only [h0,if_true]
       obtain ⟨j1,j2⟩:=le_join hx' n2
       have jc:=join_cr hx' n2
       refine (leq_mem (nf_cr (Int.le_refl _)) jc).2 fun z hz=> ?_
       obtain ⟨z1,z2,z3⟩:=(mem_nf (Int.le_refl _)).1 hz
       have z3:=Int.zero_dvd.1 z3
       rcases Int.lt_or_le x.2.2 0 with hr|hr
       · have hz':z= -x.2.2:=by omega
         refine (leq_mem n2 jc).1 j2 z ?_
         unfold negc
         rw [e1]
         refine (mem_nf (hx'.bounds e1).1).2 ⟨z1,z2,?_⟩
         rw [hz',show -x.2.2-(0-x'.2.2)= -(x.2.2-x'.2.2) by omega];exact Int.dvd_neg.2 d2
       · have hz':z=x.2.2:=by omega
         exact (leq_mem hx' jc).1 j1 z ⟨e1,z1,z2,by rw [hz'];exact d2⟩
     · simp only [h0,if_false]
       exact join_mono hx n1 hx' n2 h (neg_mono hx hx' h)
 · rfl
include hy hy' h'
theorem div_mono:leqr (divc x y) (divc x' y')=true:=by
 have hres:CR (divc x y):=(div_eq hx hy).2.2
 cases h1:x.1
 · cases h2:y.1
   · obtain ⟨e1,d1,d2⟩:=le_div hx hx' h h1
     obtain ⟨e2,d3,d4⟩:=le_div hy hy' h' h2
     by_cases hm':y'.2.1=0
     · have e:=const_eq hy hy' h' h2 hm'
       subst e
       by_cases hr:y.2.2=0
       · have:divc x y=none31:=by simp [divc,h1,h2,hm',hr]
         rw [this];rfl
       · by_cases hx0:x'.2.1=0
         · have e:=const_eq hx hx' h h1 hx0
           subst e
           exact leqr_refl hres
         · by_cases t1:Int.tmod x'.2.1 y.2.2=0
           · by_cases t2:Int.tmod x'.2.2 y.2.2=0
             · have hq:divc x' y=nf ((Int.tdiv x'.2.1 y.2.2).natAbs:Int) (Int.tdiv x'.2.2 y.2.2):=by simp [divc,e1,h2,hm',hr,hx0,t1,t2]
               rw [hq]
               obtain ⟨k,hk⟩:=tmod_zero_iff.1 t1
               obtain ⟨l,hl⟩:=tmod_zero_iff.1 t2
               obtain ⟨u,hu⟩:=d1
               obtain ⟨v,hv⟩:=d2
               have q1:Int.tdiv x'.2.1 y.2.2=k:=by rw [hk];exact Int.mul_tdiv_cancel_left _ hr
               have q2:Int.tdiv x'.2.2 y.2.2=l:=by rw [hl];exact Int.mul_tdiv_cancel_left _ hr
               have hxr:x.2.2=y.2.2 * (l+k * v):=by
                 rw [Int.mul_add,← Int.mul_assoc,← hk,← hl];omega
               have hxm:x.2.1=y.2.2 * (k * u):=by rw [← Int.mul_assoc,← hk];exact hu
               have q3:Int.tdiv x.2.2 y.2.2=l+k * v:=by rw [hxr];exact Int.mul_tdiv_cancel_left _ hr
               have q4:Int.tdiv x.2.1 y.2.2=k * u:=by rw [hxm];exact Int.mul_tdiv_cancel_left _ hr
               have t3:Int.tmod x.2.2 y.2.2=0:=tmod_zero_iff.2 ⟨_,hxr⟩
               have t4:Int.tmod x.2.1 y.2.2=0:=tmod_zero_iff.2 ⟨_,hxm⟩
               have hr2:((k.natAbs:Nat):Int) ∣ l+k * v-l:=by
                 rw [show l+k * v-l=k * v by omega];exact Int.natAbs_dvd.2 (Int.dvd_mul_right _ _)
               rw [q1,q2]
               by_cases hx1:x.2.1=0
               · have:divc x y=nf 0 (Int.tdiv x.2.2 y.2.2):=by simp [divc,h1,h2,hm',hr,hx1]
                 rw [this,q3]
                 exact cls (Int.le_refl _) (by omega) (Int.dvd_zero _) hr2
               · have:divc x y=nf ((Int.tdiv x.2.1 y.2.2).natAbs:Int) (Int.tdiv x.2.2 y.2.2):=by simp [divc,h1,h2,hm',hr,hx1,t3,t4]
                 rw [this,q3,q4]
                 exact cls (by omega) (by omega) (Int.dvd_natAbs.2 (Int.natAbs_dvd.2 (Int.dvd_mul_right _ _))) hr2
             · have hq:divc x' y=(false,(1,0)):=by simp [divc,e1,h2,hm',hr,hx0,t1,t2]
               rw [hq];exact le_all hres
           · have hq:divc x' y=(false,(1,0)):=by simp [divc,e1,h2,hm',hr,hx0,t1]
             rw [hq];exact le_all hres
     · have hq:divc x' y'=(false,(1,0)):=by simp [divc,e1,e2,hm']
       rw [hq];exact le_all hres
   · have:divc x y=none31:=by simp [divc,h1,h2]
     rw [this];rfl
 · have:divc x y=none31:=by simp [divc,h1]
   rw [this];rfl
theorem mod_mono:leqr (modc x y) (modc x' y')=true:=by
 have hres:CR (modc x y):=(mod_eq hx hy).2.2
 cases h1:x.1
 · cases h2:y.1
   · obtain ⟨e1,d1,d2⟩:=le_div hx hx' h h1
     obtain ⟨e2,d3,d4⟩:=le_div hy hy' h' h2
     by_cases hz:y.2.1=0∧y.2.2=0
     · have:modc x y=none31:=by simp [modc,h1,h2,hz]
       rw [this];rfl
     · by_cases hz':y'.2.1=0∧y'.2.2=0
       · have e:=const_eq hy hy' h' h2 hz'.1
         rw [e] at hz;exact absurd hz' hz
       · by_cases hb':x'.2.1=0∧y'.2.1=0
         · have e:=const_eq hx hx' h h1 hb'.1
           have e':=const_eq hy hy' h' h2 hb'.2
           subst e;subst e'
           exact leqr_refl hres
         · have hq:modc x' y'=nf (Nat.gcd (Nat.gcd x'.2.1.natAbs y'.2.1.natAbs) y'.2.2.natAbs:Nat) x'.2.2:=by simp [modc,e1,e2,hz',hb']
           rw [hq]
           have G1:((Nat.gcd (Nat.gcd x'.2.1.natAbs y'.2.1.natAbs) y'.2.2.natAbs:Nat):Int) ∣ x'.2.1:=Int.dvd_natAbs.1 (Int.dvd_trans (gdl _ _) (gdl _ _))
           have G2:((Nat.gcd (Nat.gcd x'.2.1.natAbs y'.2.1.natAbs) y'.2.2.natAbs:Nat):Int) ∣ y'.2.1:=Int.dvd_natAbs.1 (Int.dvd_trans (gdl _ _) (gdr _ _))
           have G3:((Nat.gcd (Nat.gcd x'.2.1.natAbs y'.2.1.natAbs) y'.2.2.natAbs:Nat):Int) ∣ y'.2.2:=Int.dvd_natAbs.1 (gdr _ _)
           have hg:(0:Int)≤((Nat.gcd (Nat.gcd x'.2.1.natAbs y'.2.1.natAbs) y'.2.2.natAbs:Nat):Int):=by omega
           generalize ((Nat.gcd (Nat.gcd x'.2.1.natAbs y'.2.1.natAbs) y'.2.2.natAbs:Nat):Int)=G at G1 G2 G3 hg ⊢
           have G4:G ∣ y.2.2:=by
             rw [show y.2.2=(y.2.2-y'.2.2)+y'.2.2 by omega];exact Int.dvd_add (Int.dvd_trans G2 d4) G3
           by_cases hb:x.2.1=0∧y.2.1=0
           · have:modc x y=nf 0 (Int.tmod x.2.2 y.2.2):=by
              have hr:¬ y.2.2=0:=fun e=>hz ⟨hb.2,e⟩
              simp [modc,h1,h2,hb,hr]
             rw [this]
             refine cls (Int.le_refl _) hg (Int.dvd_zero _) ?_
             have e:=Int.tmod_add_mul_tdiv x.2.2 y.2.2
             rw [show Int.tmod x.2.2 y.2.2-x'.2.2=(x.2.2-x'.2.2)-y.2.2 * Int.tdiv x.2.2 y.2.2 by omega]
             exact Int.dvd_sub (Int.dvd_trans G1 d2) (Int.dvd_trans G4 (Int.dvd_mul_right _ _))
           · have:modc x y=nf (Nat.gcd (Nat.gcd x.2.1.natAbs y.2.1.natAbs) y.2.2.natAbs:Nat) x.2.2:=by simp [modc,h1,h2,hz,hb]
             rw [this]
             exact cls (by omega) hg (dgd (dgd (Int.dvd_natAbs.2 (Int.dvd_trans G1 d1)) (Int.dvd_natAbs.2 (Int.dvd_trans G2 d3))) (Int.dvd_natAbs.2 G4)) (Int.dvd_trans G1 d2)
   · have:modc x y=none31:=by simp [modc,h1,h2]
     rw [this];rfl
 · have:modc x y=none31:=by simp [modc,h1]
   rw [this];rfl
end
structure LeL (a b:List TCongr):Prop where
 e:a.length=b.length
 ca:∀ i,i<a.length→CR (gx a i dCongr)
 cb:∀ i,i<a.length→CR (gx b i dCongr)
 le:∀ i,i<a.length→leqr (gx a i dCongr) (gx b i dCongr)=true
theorem opv_mono {g:TGraph} {a b:TMods} {y:TInstr} {v w:Int→TCongr} (hd:isD y=true) (hi:Idx g y) (ha:FitS g a) (hl:LeL a.2.2 b.2.2) (h:Ops y fun x=>CR (v x)∧CR (w x)∧leqr (v x) (w x)=true):leqr (opv g a y v) (opv g b y w)=true:=by
 obtain ⟨d1,d2⟩:=isD_true.1 hd
 have hc:y.1=1∨y.1=2∨y.1=3∨y.1=4∨y.1=5∨y.1=6∨y.1=7∨y.1=8∨y.1=9∨y.1=10∨y.1=11∨y.1=12:=by omega
 unfold opv
 rcases hc with k|k|k|k|k|k|k|k|k|k|k|k
 · simp only [k,if_true];exact leqr_refl (nf_cr (Int.le_refl _))
 · obtain ⟨p1,p2,p3⟩:=h.1 (.inl k)
   have:=neg_mono p1 p2 p3;simpa [k] using this
 · obtain ⟨p1,p2,p3⟩:=h.1 (.inr k)
   have:=abs_mono p1 p2 p3;simpa [k] using this
 · obtain ⟨⟨p1,p2,p3⟩,q1,q2,q3⟩:=h.2 (by omega)
   have:=add_mono p1 q1 p2 q2 p3 q3;simpa [k] using this
 · obtain ⟨⟨p1,p2,p3⟩,q1,q2,q3⟩:=h.2 (by omega)
   have:=sub_mono p1 q1 p2 q2 p3 q3;simpa [k] using this
 · obtain ⟨⟨p1,p2,p3⟩,q1,q2,q3⟩:=h.2 (by omega)
   have:=mul_mono p1 q1 p2 q2 p3 q3;simpa [k] using this
 · obtain ⟨⟨p1,p2,p3⟩,q1,q2,q3⟩:=h.2 (by omega)
   have:=div_mono p1 q1 p2 q2 p3 q3;simpa [k] using this
 · obtain ⟨⟨p1,p2,p3⟩,q1,q2,q3⟩:=h.2 (by omega)
   have:=mod_mono p1 q1 p2 q2 p3 q3;simpa [k] using this
 · obtain ⟨⟨p1,p2,p3⟩,q1,q2,q3⟩:=h.2 (by omega)
   have:=jc_mono p1 q1 p2 q2 p3 q3;simpa [k] using this
 · obtain ⟨⟨p1,p2,p3⟩,q1,q2,q3⟩:=h.2 (by omega)
   have:=jc_mono p1 q1 p2 q2 p3 q3;simpa [k] using this
 · obtain ⟨u1,u2⟩:=hi.k11 (.inl k)
   have hil:=ha.il
   have:=hl.le y.2.2.1.toNat (by omega);simpa [k] using this
 · simp only [k]
   by_cases e:(gx (arrs g) y.2.2.1.toNat dArray).2.2.1=(gx (arrs g) y.2.2.1.toNat dArray).2.2.2
   · have:=leqr_refl (nf_cr (x:=(gx (arrs g) y.2.2.1.toNat dArray).2.2.1) (Int.le_refl 0));simpa [e] using this
   · have:=leqr_refl all_cr;simpa [e] using this
section
variable {g:TGraph} {D:List Int} {a b:TMods}
theorem outs_mono (hG:FitG g D) (ha:FitS g a) (hb:FitS g b) (hv:LeL a.2.1 b.2.1) (hw:LeL a.2.2 b.2.2) {oa ob:List TCongr} (ho:Outs g a g.1.length oa) (hp:Outs g b g.1.length ob):
  ∀ (n:Nat),n≤g.1.length→∀ x:Int,(0≤x∧x<((scs g).length:Int))∨(∃ j,j<n∧j<g.1.length∧isD (at' g j)=true∧(at' g j).2.1=x)→CR (gx oa x.toNat dCongr)∧CR (gx ob x.toNat dCongr)∧leqr (gx oa x.toNat dCongr) (gx ob x.toNat dCongr)=true
 |0,_,x,hx=>by
  rcases hx with ⟨h0,h1⟩|⟨j,hj,_⟩
  · have e:=ha.sl
    rw [ho.sc x.toNat (by omega),hp.sc x.toNat (by omega)]
    exact ⟨hv.ca _ (by omega),hv.cb _ (by omega),hv.le _ (by omega)⟩
  · exact absurd hj (Nat.not_lt_zero _)
 |n+1,hn,x,hx=>by
  rcases hx with hx|⟨j,hj,hjN,hdj,e⟩
  · exact outs_mono hG ha hb hv hw ho hp n (by omega) x (.inl hx)
  · by_cases hjn:j<n
    · exact outs_mono hG ha hb hv hw ho hp n (by omega) x (.inr ⟨j,hjn,hjN,hdj,e⟩)
    · have:j=n:=by omega
      subst this
      obtain ⟨a1,a2⟩:=ho.df j hjN hdj
      obtain ⟨b1,b2⟩:=hp.df j hjN hdj
      have good:=hG.good j hjN
      rw [e] at a1 a2 b1 b2
      refine ⟨a2,b2,?_⟩
      rw [a1,b1]
      refine opv_mono hdj good.idx ha hw (uses_ops fun z hz=> ?_)
      obtain ⟨z1,z2,z3⟩:=use_cases hG (good.use z hz)
      refine outs_mono hG ha hb hv hw ho hp j (by omega) z ?_
      rcases z3 with z3|⟨j',w1,w2,w3,w4⟩
      · exact .inl ⟨z1,z3⟩
      · exact .inr ⟨j',w1,w2,w3,w4⟩
theorem reg_cases (hG:FitG g D) {x:Int} (h0:0≤x) (h1:x<g.2.2.1):(0≤x∧x<((scs g).length:Int))∨(∃ j,j<g.1.length∧j<g.1.length∧isD (at' g j)=true∧(at' g j).2.1=x):=by
 rcases Int.lt_or_le x ((scs g).length:Int) with h4|h4
 · exact .inl ⟨h0,h4⟩
 · have hr:=hG.defs.regs
   obtain ⟨k,hk⟩:=Int.eq_ofNat_of_zero_le (show 0≤x-((scs g).length:Int) by omega)
   obtain ⟨j,d1,d2,d3,d4⟩:=hG.defs.dn k (by omega)
   exact .inr ⟨j,d2,d2,d3,by omega⟩
theorem outs_le (hG:FitG g D) (ha:FitS g a) (hb:FitS g b) (hv:LeL a.2.1 b.2.1) (hw:LeL a.2.2 b.2.2) {oa ob:List TCongr} (ho:Outs g a g.1.length oa) (hp:Outs g b g.1.length ob) {x:Int} (h0:0≤x) (h1:x<g.2.2.1):
 CR (gx oa x.toNat dCongr)∧CR (gx ob x.toNat dCongr)∧leqr (gx oa x.toNat dCongr) (gx ob x.toNat dCongr)=true:=outs_mono hG ha hb hv hw ho hp g.1.length (Nat.le_refl _) x (reg_cases hG h0 h1)
end
end Go.U
end
