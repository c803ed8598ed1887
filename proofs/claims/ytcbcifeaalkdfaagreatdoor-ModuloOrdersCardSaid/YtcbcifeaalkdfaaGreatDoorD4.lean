/- What these Lean functions compute: plain arithmetic of congruences, the checks of a graph, the values of its registers. -/
import Derived.Test.YtcbcifeaalkdfaaGreatDoorD2
import Derived.Test.YtcbcifeaalkdfaaGreatDoorD3
set_option linter.unusedVariables false
set_option linter.unusedSimpArgs false
set_option linter.unusedSectionVars false
section
set_option maxRecDepth 20000
namespace Go.U
open Go
theorem dvd_emod {m a b:Int} (h:m ∣ a-b):a%m=b%m:=Int.emod_eq_emod_iff_emod_sub_eq_zero.2 (Int.emod_eq_zero_of_dvd h)
theorem emod_dvd {m a b:Int} (h:a%m=b%m):m ∣ a-b:=Int.dvd_of_emod_eq_zero (Int.emod_eq_emod_iff_emod_sub_eq_zero.1 h)
theorem nf_one {m x y z : Int} (hm : 0 < m) (h : nf m x = (false, (0, y))) (hz0 : -2147483648 ≤ z) (hz1 : z ≤ 2147483647) (hd : m ∣ z - x) : z = y := by
  have hm0 : m ≠ 0 := by omega
  unfold nf at h
  rw [if_neg hm0] at h
  split at h
  · simp at h
  · rename_i g1
    split at h
    · rename_i g2
      simp only [Prod.mk.injEq, true_and] at h
      have e : (z + 2147483648) % m = (x + 2147483648) % m := dvd_emod (by rw [show z + 2147483648 - (x + 2147483648) = z - x by omega]; exact hd)
      have e2 := Int.emod_add_mul_ediv (z + 2147483648) m
      have q0 : 0 ≤ (z + 2147483648) / m := Int.ediv_nonneg (by omega) (by omega)
      unfold lo31 at g1 g2 h
      rw [e] at e2
      generalize (z + 2147483648) / m = q at e2 q0
      by_cases hq : q = 0
      · subst hq; rw [Int.mul_zero] at e2; omega
      · have : m * 1 ≤ m * q := Int.mul_le_mul_of_nonneg_left (by omega) (by omega)
        rw [Int.mul_one] at this; omega
    · simp only [Prod.mk.injEq, true_and] at h; omega
theorem CR.two {c : TCongr} (h : CR c) (h1 : c.1 = false) (h0 : c.2.1 ≠ 0) : ∃ z w : Int, z ≠ w ∧ -2147483648 ≤ z ∧ z ≤ 2147483647 ∧ -2147483648 ≤ w ∧ w ≤ 2147483647 ∧ c.2.1 ∣ z - c.2.2 ∧ c.2.1 ∣ w - c.2.2 := by
  obtain ⟨e1, e2, e3⟩ := show c.1 = false ∧ 0 ≤ c.2.1 ∧ nf c.2.1 c.2.2 = c by
    rcases h with rfl | h
    · simp at h1
    · exact h
  obtain ⟨b, m, x⟩ := c
  simp only at h0 e1 e2 e3 ⊢
  subst e1
  obtain ⟨k, l1, l2, l3⟩ := lo31_eq (m := m) (x := x) (by omega)
  unfold nf at e3
  rw [if_neg h0] at e3
  split at e3
  · simp at e3
  · split at e3
    · simp only [Prod.mk.injEq, true_and] at e3; omega
    · simp only [Prod.mk.injEq, true_and] at e3
      have d : m ∣ lo31 m x - x := by
        rw [l1, e3]; exact ⟨-k, by rw [Int.mul_neg]; omega⟩
      refine ⟨lo31 m x, lo31 m x + m, by omega, l2, by omega, by omega, by omega, d, ?_⟩
      rw [show lo31 m x + m - x = (lo31 m x - x) + m by omega]
      exact Int.dvd_add d (Int.dvd_refl m)
theorem nf_mod {m x n r : Int} (h : nf m x = (false, (n, r))) (hn : n ≠ 0) : m = n ∧ x % n = r := by
  unfold nf at h
  split at h
  · split at h
    · simp only [Prod.mk.injEq, true_and] at h; omega
    · simp at h
  · split at h
    · simp at h
    · split at h
      · simp only [Prod.mk.injEq, true_and] at h; omega
      · simp only [Prod.mk.injEq, true_and] at h
        obtain ⟨rfl, h⟩ := h; exact ⟨rfl, h⟩
def leqr (a b:TCongr):Bool:=cond a.1 true (cond b.1 false (if a.2.1=0 then hasc b a.2.2 else (!(decide (b.2.1=0))&&(decide (b.2.1 ∣ a.2.1)&&decide (b.2.1 ∣ a.2.2-b.2.2)))))
theorem leq_one {a b : TCongr} (ha : CR a) (hb : CR b) (h1 : a.1 = false) (h2 : b.1 = false) : joinc a b = b ↔ leqr a b = true := by
  obtain ⟨b1, m1, r1⟩ := a
  obtain ⟨b2, m2, r2⟩ := b
  simp only at h1 h2
  subst h1; subst h2
  have ha2 := ha.two rfl; have hb2 := hb.rem rfl
  obtain ⟨M1, rfl, p1, p2, p3, p4, p5⟩ := ha.nums
  obtain ⟨M2, rfl, q1, q2, q3, q4, q5⟩ := hb.nums
  simp only at ha2 hb2
  unfold joinc leqr hasc
  simp only [cond_false, Int.natAbs_natCast, Bool.not_false, Bool.true_and]
  have hgd : ((Nat.gcd (Nat.gcd M1 M2) (r1 - r2).natAbs : Nat) : Int) ∣ r1 - r2 := Int.dvd_natAbs.1 (Int.natCast_dvd_natCast.2 (Nat.gcd_dvd_right _ _))
  have hg1 : ((Nat.gcd (Nat.gcd M1 M2) (r1 - r2).natAbs : Nat) : Int) ∣ (M1 : Int) := Int.natCast_dvd_natCast.2 (Nat.dvd_trans (Nat.gcd_dvd_left _ _) (Nat.gcd_dvd_left _ _))
  by_cases c2 : M2 = 0
  · subst c2
    have q6 := q5 rfl
    constructor
    · intro h
      have hG : Nat.gcd (Nat.gcd M1 0) (r1 - r2).natAbs = 0 := by
        rcases Nat.eq_zero_or_pos (Nat.gcd (Nat.gcd M1 0) (r1 - r2).natAbs) with hz | hp
        · exact hz
        · exfalso
          have key : ∀ z : Int, -2147483648 ≤ z → z ≤ 2147483647 → ((Nat.gcd (Nat.gcd M1 0) (r1 - r2).natAbs : Nat) : Int) ∣ z - r1 → z = r2 := fun z z0 z1 hd => nf_one (by omega) h z0 z1 hd
          by_cases c1 : M1 = 0
          · subst c1
            have e := key r1 p2 (p5 rfl) (by rw [Int.sub_self]; exact Int.dvd_zero _)
            subst e
            simp at hp
          · obtain ⟨z, w, k1, k2, k3, k4, k5, k6, k7⟩ := ha2 (by omega)
            exact k1 ((key z k2 k3 (Int.dvd_trans hg1 k6)).trans (key w k4 k5 (Int.dvd_trans hg1 k7)).symm)
      have h3 := Nat.eq_zero_of_gcd_eq_zero_left hG
      have h4 := Nat.eq_zero_of_gcd_eq_zero_right hG
      rw [Nat.gcd_zero_right] at h3
      subst h3
      have e : r1 = r2 := Int.sub_eq_zero.1 (Int.natAbs_eq_zero.1 h4)
      subst e
      have p6 := p5 rfl
      simp [p2, p6]
    · intro h
      by_cases c1 : M1 = 0
      · subst c1
        simp at h
        obtain ⟨_, rfl⟩ := h
        simp only [Int.sub_self, Int.natAbs_zero, Nat.gcd_zero_right, Nat.gcd_self]
        exact q4
      · simp [c1] at h
  · have c2' : (M2 : Int) ≠ 0 := by omega
    obtain ⟨e1, e2, e3⟩ := hb2 c2'
    constructor
    · intro h
      obtain ⟨g1, g2⟩ := nf_mod h c2'
      rw [g1] at hgd hg1
      by_cases c1 : M1 = 0
      · subst c1
        have p6 := p5 rfl
        simp [p2, p6, c2, g2]
      · simp [c1, c2, hg1, hgd]
    · intro h
      have hd : (M2 : Int) ∣ (M1 : Int) ∧ (M2 : Int) ∣ r1 - r2 := by
        by_cases c1 : M1 = 0
        · subst c1
          simp [c2] at h
          exact ⟨Int.dvd_zero _, emod_dvd (by rw [h.2]; exact e1)⟩
        · simp [c1, c2] at h
          exact h
      have hG : Nat.gcd (Nat.gcd M1 M2) (r1 - r2).natAbs = M2 := by
        rw [Nat.gcd_eq_right (Int.natCast_dvd_natCast.1 hd.1)]
        exact Nat.gcd_eq_left (Int.natCast_dvd_natCast.1 (Int.dvd_natAbs.2 hd.2))
      rw [hG, nf_emod (dvd_emod hd.2) c2', q4]
def eqb (a b:TCongr):Bool:=(a.1==b.1)&&((decide (a.2.1=b.2.1))&&((decide (a.2.2=b.2.2))&&true))
theorem eqb_eq {a b:TCongr}:eqb a b=decide (a=b):=by
 obtain ⟨a1,a2,a3⟩:=a
 obtain ⟨b1,b2,b3⟩:=b
 unfold eqb
 by_cases h1:a1=b1<;>by_cases h2:a2=b2<;>by_cases h3:a3=b3<;>simp [h1,h2,h3]
theorem f27_eq {a b : TCongr} (ha : CR a) (hb : CR b) : f27_m (a, b) = some (leqr a b) := by
  unfold f27_m f27_c
  cases h1 : a.1
  · cases h2 : b.1
    · simp only [cond_false, Bool.not_false, cond_true]
      rw [(join_eq ha hb).1]
      simp only [Option.bind_some]
      have e : eqb (joinc a b) b = leqr a b := by
        rw [eqb_eq]
        cases h3 : leqr a b
        · exact decide_eq_false fun e => by rw [(leq_one ha hb h1 h2).1 e] at h3; cases h3
        · exact decide_eq_true ((leq_one ha hb h1 h2).2 h3)
      rw [← e, ← h2]; rfl
    · simp [leqr, h1, h2]
  · simp [leqr, h1]
theorem f126_eq {a b : TCongr} (ha : CR a) (hb : CR b) : f126_m (a, b) = some (leqr a b) := by
  unfold f126_m f126_c
  cases h1 : a.1
  · cases h2 : b.1
    · obtain ⟨a0, a1, a2, a3, _, _⟩ := ha.bounds h1
      obtain ⟨b0, b1, b2, b3, _, _⟩ := hb.bounds h2
      simp only [leqr, h1, h2, cond_false]
      by_cases h3 : a.2.1 = 0
      · simp only [h3, decide_true, cond_true, if_true]
        rw [f65_eq hb]; rfl
      · by_cases h4 : b.2.1 = 0
        · simp [h3, h4]
        · simp only [h3, h4, decide_false, cond_false, Bool.not_false, cond_true, if_false, Bool.true_and]
          rw [wi64_of (by omega) (by omega)]
          by_cases h5 : b.2.1 ∣ a.2.1
          · simp only [tmod_zero_iff.2 h5, h5, decide_true, cond_true, Bool.true_and]
            by_cases h6 : b.2.1 ∣ a.2.2 - b.2.2
            · simp only [tmod_zero_iff.2 h6, h6, decide_true]
            · have : ¬ Int.tmod (a.2.2 - b.2.2) b.2.1 = 0 := fun e => h6 (tmod_zero_iff.1 e)
              simp only [this, h6, decide_false]
          · have : ¬ Int.tmod a.2.1 b.2.1 = 0 := fun e => h5 (tmod_zero_iff.1 e)
            simp only [this, h5, decide_false, cond_false, Bool.false_and]
    · simp [leqr, h1, h2]
  · simp [leqr, h1]
end Go.U
end
section
set_option maxRecDepth 20000
namespace Go.U
open Go
theorem range_gx {α:Type} {l:List α} {d:α}:(List.range l.length).map (fun j=>gx l j d)=l:=by
 refine List.ext_getElem (by simp) fun i h1 h2=> ?_
 simp [gx,List.getD,List.getElem?_eq_getElem h2]
theorem gx_map {α:Type} {n:Nat} {F:Nat→α} {d:α} {i:Nat} (h:i<n):gx ((List.range n).map F) i d=F i:=by simp [gx,List.getD,h]
theorem len24 {n:Nat} (h:n≤1048576):(decide (n * 24≤70368744177664)&&decide (n<9223372036854775808))=true:=by simp;omega
theorem loop_build {n:Nat} (hn:n≤1048576) {F:Nat→TCongr} {step:Int×List TCongr→Option ((Int×List TCongr) ⊕ List TCongr)} (hs:∀ (i:Nat) (l:List TCongr),i<n→l.length=i→step ((i:Int),l)=some (.inl (wi64 ((i:Int)+1),l++[F i])))
  (he:∀ l,step ((n:Int),l)=some (.inr l)):loopAll step (0,[])=some ((List.range n).map F):=
 loop_run (n:=n) (fun i=>((i:Int),(List.range i).map F)) _ (by omega) (fun t=>n-t.1.toNat) (fun i hi=>by simp) (fun i hi=>by
  rw [hs i _ hi (by simp),wi64_of (by omega) (by omega),List.range_succ,List.map_append];rfl) (he _)
def stepL (a:List TCongr) (F:Nat→TCongr) (n i:Nat):List TCongr:=(List.range n).map fun j=>if j<i then F j else gx a j dCongr
theorem stepL_len {a:List TCongr} {F:Nat→TCongr} {n i:Nat}:(stepL a F n i).length=n:=by simp [stepL]
theorem stepL_at {a:List TCongr} {F:Nat→TCongr} {n i:Nat} (h:i<n):gx (stepL a F n i) i dCongr=gx a i dCongr:=by
 unfold stepL;rw [gx_map h,if_neg (Nat.lt_irrefl _)]
theorem stepL_set {a : List TCongr} {F : Nat → TCongr} {n i : Nat} (h : i < n) : List.set (stepL a F n i) i (F i) = stepL a F n (i + 1) := by
  refine List.ext_getElem (by simp [stepL]) fun k h1 h2 => ?_
  rw [List.getElem_set]
  simp only [stepL, List.getElem_map, List.getElem_range]
  by_cases hk : i = k
  · subst hk; simp
  · rw [if_neg hk]
    by_cases h3 : k < i
    · rw [if_pos h3, if_pos (by omega)]
    · rw [if_neg h3, if_neg (by omega)]
theorem stepL_zero {a:List TCongr} {F:Nat→TCongr}:stepL a F a.length 0=a:=by
 refine Eq.trans ?_ (range_gx (d:=dCongr))
 exact List.map_congr_left fun j hj=>if_neg (Nat.not_lt_zero _)
theorem stepL_all {a:List TCongr} {F:Nat→TCongr} {n:Nat}:stepL a F n n=(List.range n).map F:=
 List.map_congr_left fun j hj=>if_pos (List.mem_range.1 hj)
theorem loop_set {a:List TCongr} (hn:a.length≤1048576) {F:Nat→TCongr} {step:Int×List TCongr→Option ((Int×List TCongr) ⊕ List TCongr)} (hs:∀ (i:Nat) (l:List TCongr),i<a.length→l.length=a.length→gx l i dCongr=gx a i dCongr→step ((i:Int),l)=some (.inl (wi64 ((i:Int)+1),List.set l i (F i))))
  (he:∀ l,l.length=a.length→step ((a.length:Int),l)=some (.inr l)):loopAll step (0,a)=some ((List.range a.length).map F):=by
 have:=loop_run (n:=a.length) (step:=step) (fun i=>((i:Int),stepL a F a.length i)) ((List.range a.length).map F) (by omega) (fun t=>a.length-t.1.toNat) (fun i hi=>by simp) (fun i hi=>by
  rw [hs i _ hi stepL_len (stepL_at hi),wi64_of (by omega) (by omega),stepL_set hi];rfl) (by rw [he _ stepL_len,stepL_all])
 simp only [stepL_zero] at this
 exact this
def initS (g:TGraph):List TCongr:=(List.range (scs g).length).map fun i=>nf 0 (gx (scs g) i dScalar).2.2
def initA (g:TGraph):List TCongr:=(List.range (inps g).length).map fun i=>nf 0 (gx (inps g) i dArray).2.2.2
theorem p70_eq (x:Int):f70_m x=some (nf 0 x):=by
 unfold f70_m f70_c
 have h:f122_m (0,x)=some (nf 0 x):=f127_to x
 rw [h];rfl
theorem p71_0 {x:Int} (h0: -9223372036854775808≤x) (h1:x≤9223372036854775807):f71_m (0,x)=some (nf 0 x):=f71_eq (by decide) (by decide) h0 h1
structure InitOK (g:TGraph):Prop where
 s:(scs g).length≤1048576
 a:(inps g).length≤1048576
 si:∀ i,i<(scs g).length→I64 (gx (scs g) i dScalar).2.2
 ai:∀ i,i<(inps g).length→I64 (gx (inps g) i dArray).2.2.2
theorem f32_eq {g:TGraph} (h:InitOK g):f32_m g=some (initS g,initA g):=by
 unfold f32_m f32_c
 rw [loop_build (n:=(scs g).length) (F:=fun i=>nf 0 (gx (scs g) i dScalar).2.2) h.s (fun i l hi hl=>by
  have h':(i:Int)<((scs g).length:Int):=by omega
  have hs:=h.s
  simp only [LD.m,f32_l3,nt,h',decide_true,cond_true,inR hi,ask_true,Int.toNat_natCast]
  rw [p70_eq]
  simp only [Option.bind_some,List.length_singleton]
  rw [len24 (by omega),ask_true]) (fun l=>by
  simp only [LD.m,f32_l3,nt,Int.lt_irrefl,decide_false,cond_false])]
 simp only [Option.bind_some]
 rw [loop_build (n:=(inps g).length) (F:=fun i=>nf 0 (gx (inps g) i dArray).2.2.2) h.a (fun i l hi hl=>by
  have h':(i:Int)<((inps g).length:Int):=by omega
  have hs:=h.a
  simp only [LD.m,f32_l8,nt,h',decide_true,cond_true,inR hi,ask_true,Int.toNat_natCast]
  rw [p70_eq]
  simp only [Option.bind_some,List.length_singleton]
  rw [len24 (by omega),ask_true]) (fun l=>by
  simp only [LD.m,f32_l8,nt,Int.lt_irrefl,decide_false,cond_false])]
 rfl
theorem f33_eq {g:TGraph} (h:InitOK g):f33_m g=some (initS g,initA g):=by
 unfold f33_m f33_c
 rw [loop_build (n:=(scs g).length) (F:=fun i=>nf 0 (gx (scs g) i dScalar).2.2) h.s (fun i l hi hl=>by
  have h':(i:Int)<((scs g).length:Int):=by omega
  have hs:=h.s
  obtain ⟨i1,i2⟩:=h.si i hi
  simp only [LD.m,f33_l3,nt,h',decide_true,cond_true,inR hi,ask_true,Int.toNat_natCast]
  rw [p71_0 i1 i2]
  simp only [Option.bind_some,List.length_singleton]
  rw [len24 (by omega),ask_true]) (fun l=>by
  simp only [LD.m,f33_l3,nt,Int.lt_irrefl,decide_false,cond_false])]
 simp only [Option.bind_some]
 rw [loop_build (n:=(inps g).length) (F:=fun i=>nf 0 (gx (inps g) i dArray).2.2.2) h.a (fun i l hi hl=>by
  have h':(i:Int)<((inps g).length:Int):=by omega
  have hs:=h.a
  obtain ⟨i1,i2⟩:=h.ai i hi
  simp only [LD.m,f33_l7,nt,h',decide_true,cond_true,inR hi,ask_true,Int.toNat_natCast]
  rw [p71_0 i1 i2]
  simp only [Option.bind_some,List.length_singleton]
  rw [len24 (by omega),ask_true]) (fun l=>by
  simp only [LD.m,f33_l7,nt,Int.lt_irrefl,decide_false,cond_false])]
 rfl
theorem eqb_self (c:TCongr):((c.1==c.1)&&((decide (c.2.1=c.2.1))&&((decide (c.2.2=c.2.2))&&true)))=true:=by simp
theorem all_true {n:Nat}:((List.range n).all fun _=>true)=true:=by simp
theorem f17_self {s:TMods} (h1:s.2.1.length≤1048576) (h2:s.2.2.length≤1048576):f17_m (s,s)=some true:=by
 unfold f17_m f17_c
 simp only [beq_self_eq_true,Bool.not_true,cond_false,decide_true]
 rw [loop_all (n:=s.2.1.length) (by omega) (p:=fun _=>true) (fun i hi=>by
  have h':(i:Int)<(s.2.1.length:Int):=by omega
  simp only [LD.m,f17_l4,nt,h',decide_true,cond_true,inR hi,ask_true,beq_self_eq_true,Bool.and_self,Bool.not_true,cond_false]) (by
  simp only [LD.m,f17_l4,nt,Int.lt_irrefl,decide_false,cond_false]),all_true]
 simp only [cond_true,Option.bind_some,Sum.elim_inr]
 rw [loop_all (n:=s.2.2.length) (by omega) (p:=fun _=>true) (fun i hi=>by
  have h':(i:Int)<(s.2.2.length:Int):=by omega
  simp only [LD.m,f17_l9,nt,h',decide_true,cond_true,inR hi,ask_true,beq_self_eq_true,Bool.and_self,Bool.not_true,cond_false]) (by
  simp only [LD.m,f17_l9,nt,Int.lt_irrefl,decide_false,cond_false]),all_true]
 rfl
theorem f17v1_self {s:TMods} (h1:s.2.1.length≤1048576) (h2:s.2.2.length≤1048576):f17v1_m (s.1,s,s.2.1,s.2.2)=some true:=by
 unfold f17v1_m f17v1_c
 simp only [beq_self_eq_true,Bool.not_true,cond_false,decide_true]
 rw [loop_all (n:=s.2.1.length) (by omega) (p:=fun _=>true) (fun i hi=>by
  have h':(i:Int)<(s.2.1.length:Int):=by omega
  simp only [LD.m,f17v1_l4,nt,h',decide_true,cond_true,inR hi,ask_true,beq_self_eq_true,Bool.and_self,Bool.not_true,cond_false]) (by
  simp only [LD.m,f17v1_l4,nt,Int.lt_irrefl,decide_false,cond_false]),all_true]
 simp only [cond_true,Option.bind_some,Sum.elim_inr]
 rw [loop_all (n:=s.2.2.length) (by omega) (p:=fun _=>true) (fun i hi=>by
  have h':(i:Int)<(s.2.2.length:Int):=by omega
  simp only [LD.m,f17v1_l9,nt,h',decide_true,cond_true,inR hi,ask_true,beq_self_eq_true,Bool.and_self,Bool.not_true,cond_false]) (by
  simp only [LD.m,f17v1_l9,nt,Int.lt_irrefl,decide_false,cond_false]),all_true]
 rfl
theorem f18_tot {b:Bool} {l m:List TCongr} (h1:l.length≤1048576) (h2:m.length≤1048576):∃ r,f18_m (b,l,m)=some r:=by
 unfold f18_m f18_c
 rw [loop_set (a:=l) h1 (F:=fun _=>(false,(0,4321))) (fun i l' hi hl _=>by
  have h':(i:Int)<(l'.length:Int):=by omega
  have hi':i<l'.length:=by omega
  simp only [LD.m,f18_l2,nt,h',decide_true,cond_true,inR hi',ask_true,Int.toNat_natCast]) (fun l' hl=>by
  simp only [LD.m,f18_l2,nt,hl,Int.lt_irrefl,decide_false,cond_false])]
 simp only [Option.bind_some]
 rw [loop_set (a:=m) h2 (F:=fun _=>(false,(0,4321))) (fun i l' hi hl _=>by
  have h':(i:Int)<(l'.length:Int):=by omega
  have hi':i<l'.length:=by omega
  simp only [LD.m,f18_l6,nt,h',decide_true,cond_true,inR hi',ask_true,Int.toNat_natCast]) (fun l' hl=>by
  simp only [LD.m,f18_l6,nt,hl,Int.lt_irrefl,decide_false,cond_false])]
 exact ⟨_,rfl⟩
def joinL (a b:List TCongr):List TCongr:=(List.range a.length).map fun i=>joinc (gx a i dCongr) (gx b i dCongr)
structure Pair (a b:List TCongr):Prop where
 n:a.length≤1048576
 e:a.length=b.length
 ca:∀ i,i<a.length→CR (gx a i dCongr)
 cb:∀ i,i<a.length→CR (gx b i dCongr)
theorem f76_eq {a b:List TCongr} (h:Pair a b):f76_m (a,b)=some (joinL a b):=by
 unfold f76_m f76_c
 rw [loop_build (n:=a.length) (F:=fun i=>joinc (gx a i dCongr) (gx b i dCongr)) h.n (fun i l hi hl=>by
  have h':(i:Int)<(a.length:Int):=by omega
  have hb:i<b.length:=by have:=h.e;omega
  have hn:=h.n
  simp only [LD.m,f76_l3,nt,h',decide_true,cond_true,inR hi,inR hb,ask_true,Int.toNat_natCast]
  rw [(join_eq (h.ca i hi) (h.cb i hi)).2.1]
  simp only [Option.bind_some,List.length_singleton]
  rw [len24 (by omega),ask_true]) (fun l=>by
  simp only [LD.m,f76_l3,nt,Int.lt_irrefl,decide_false,cond_false])]
 rfl
theorem y260009_eq {a l:List TCongr} {i:Nat} {c:TCongr} (h1:CR (gx a i dCongr)) (h2:CR c) (e:gx l i dCongr=gx a i dCongr):y260009_m (i,c,l)=some (List.set l i (joinc (gx a i dCongr) c)):=by
 unfold y260009_m y260009_c
 simp only
 rw [e,(join_eq h1 h2).1];rfl
theorem f116v2_eq {p q:Bool} {a b c d:List TCongr} (h:Pair a c) (h':Pair b d):f116v2_m (p,a,b,q,c,d)=some (joinL a c,joinL b d):=by
 unfold f116v2_m f116v2_c
 rw [loop_set (a:=a) h.n (F:=fun i=>joinc (gx a i dCongr) (gx c i dCongr)) (fun i l hi hl hg=>by
  have h1:(i:Int)<(a.length:Int):=by omega
  have h2:i<l.length:=by omega
  have h3:i<c.length:=by have:=h.e;omega
  simp only [LD.m,f116v2_l1,nt,h1,decide_true,cond_true,inR h2,inR h3,ask_true,Int.toNat_natCast]
  rw [y260009_eq (h.ca i hi) (h.cb i hi) hg];rfl) (fun l hl=>by
  simp only [LD.m,f116v2_l1,nt,Int.lt_irrefl,decide_false,cond_false])]
 simp only [Option.bind_some]
 rw [loop_set (a:=b) h'.n (F:=fun i=>joinc (gx b i dCongr) (gx d i dCongr)) (fun i l hi hl hg=>by
  have h1:(i:Int)<(b.length:Int):=by omega
  have h2:i<l.length:=by omega
  have h3:i<d.length:=by have:=h'.e;omega
  simp only [LD.m,f116v2_l6,nt,h1,decide_true,cond_true,inR h2,inR h3,ask_true,Int.toNat_natCast]
  rw [y260009_eq (h'.ca i hi) (h'.cb i hi) hg];rfl) (fun l hl=>by
  simp only [LD.m,f116v2_l6,nt,Int.lt_irrefl,decide_false,cond_false])]
 rfl
def leqL (a b:List TCongr):Bool:=(List.range a.length).all fun i=>leqr (gx a i dCongr) (gx b i dCongr)
theorem f75_eq {a b:List TCongr} (h:Pair a b):f75_m (a,b)=some (leqL a b):=by
 unfold f75_m f75_c
 rw [loop_all (n:=a.length) (by have:=h.n;omega) (p:=fun i=>leqr (gx a i dCongr) (gx b i dCongr)) (fun i hi=>by
  have h':(i:Int)<(a.length:Int):=by omega
  have hb:i<b.length:=by have:=h.e;omega
  simp only [LD.m,f75_l2,nt,h',decide_true,cond_true,inR hi,inR hb,ask_true,Int.toNat_natCast]
  rw [f126_eq (h.ca i hi) (h.cb i hi)]
  simp only [Option.bind_some]
  cases leqr (gx a i dCongr) (gx b i dCongr)<;>rfl) (by
  simp only [LD.m,f75_l2,nt,Int.lt_irrefl,decide_false,cond_false])]
 simp only [Option.bind_some]
 show _=some (leqL a b)
 unfold leqL
 cases (List.range a.length).all fun i=>leqr (gx a i dCongr) (gx b i dCongr)<;>rfl
end Go.U
end
section
set_option maxRecDepth 20000
namespace Go.U
open Go
theorem y250004v1_eq {l:List TCongr} {i:Nat} {c:TCongr} {f:Bool} (h1:CR (gx l i dCongr)) (h2:CR c):y250004v1_m (i,c,f,l)=some (cond (leqr (gx l i dCongr) c) (.inr ()) (.inl ())):=by
 unfold y250004v1_m y250004v1_c
 simp only
 rw [f27_eq h1 h2]
 simp only [Option.bind_some]
 cases leqr (gx l i dCongr) c<;>rfl
theorem f116v3_eq {p q f : Bool} {a b c d : List TCongr} (h : Pair a c) (h' : Pair b d) : f116v3_m (p, a, b, q, c, d, f) = some (cond (leqL a c && leqL b d) (.inr ()) (.inl ())) := by
  unfold f116v3_m f116v3_c
  rw [loop_all (n := a.length) (by have := h.n; omega) (p := fun i => leqr (gx a i dCongr) (gx c i dCongr)) (fun i hi => by
    have h1 : (i : Int) < (a.length : Int) := by omega
    have h3 : i < c.length := by have := h.e; omega
    simp only [LD.m, f116v3_l1, nt, h1, decide_true, cond_true, inR hi, inR h3, ask_true, Int.toNat_natCast]
    rw [y250004v1_eq (h.ca i hi) (h.cb i hi)]
    simp only [Option.bind_some]
    cases leqr (gx a i dCongr) (gx c i dCongr) <;> rfl) (by
    simp only [LD.m, f116v3_l1, nt, Int.lt_irrefl, decide_false, cond_false])]
  simp only [Option.bind_some]
  show _ = some (cond (leqL a c && leqL b d) _ _)
  unfold leqL
  cases (List.range a.length).all fun i => leqr (gx a i dCongr) (gx c i dCongr)
  · rfl
  · simp only [cond_true, Sum.elim_inr, Bool.true_and]
    rw [loop_all (n := b.length) (by have := h'.n; omega) (p := fun i => leqr (gx b i dCongr) (gx d i dCongr)) (fun i hi => by
      have h1 : (i : Int) < (b.length : Int) := by omega
      have h3 : i < d.length := by have := h'.e; omega
      simp only [LD.m, f116v3_l6, nt, h1, decide_true, cond_true, inR hi, inR h3, ask_true, Int.toNat_natCast]
      rw [y250004v1_eq (h'.ca i hi) (h'.cb i hi)]
      simp only [Option.bind_some]
      cases leqr (gx b i dCongr) (gx d i dCongr) <;> rfl) (by
      simp only [LD.m, f116v3_l6, nt, Int.lt_irrefl, decide_false, cond_false])]
    simp only [Option.bind_some]
    cases (List.range b.length).all fun i => leqr (gx b i dCongr) (gx d i dCongr) <;> rfl
theorem f116v4_eq {p q f : Bool} {a b : List TCongr} (h : Pair a a) (h' : Pair b b) : f116v4_m (p, a, b, q, f) = some (cond (leqL a a && leqL b b) (.inr ()) (.inl ())) := by
  unfold f116v4_m f116v4_c
  rw [loop_all (n := a.length) (by have := h.n; omega) (p := fun i => leqr (gx a i dCongr) (gx a i dCongr)) (fun i hi => by
    have h1 : (i : Int) < (a.length : Int) := by omega
    simp only [LD.m, f116v4_l1, nt, h1, decide_true, cond_true, inR hi, ask_true, Int.toNat_natCast]
    rw [y250004v1_eq (h.ca i hi) (h.cb i hi)]
    simp only [Option.bind_some]
    cases leqr (gx a i dCongr) (gx a i dCongr) <;> rfl) (by
    simp only [LD.m, f116v4_l1, nt, Int.lt_irrefl, decide_false, cond_false])]
  simp only [Option.bind_some]
  show _ = some (cond (leqL a a && leqL b b) _ _)
  unfold leqL
  cases (List.range a.length).all fun i => leqr (gx a i dCongr) (gx a i dCongr)
  · rfl
  · simp only [cond_true, Sum.elim_inr, Bool.true_and]
    rw [loop_all (n := b.length) (by have := h'.n; omega) (p := fun i => leqr (gx b i dCongr) (gx b i dCongr)) (fun i hi => by
      have h1 : (i : Int) < (b.length : Int) := by omega
      simp only [LD.m, f116v4_l6, nt, h1, decide_true, cond_true, inR hi, ask_true, Int.toNat_natCast]
      rw [y250004v1_eq (h'.ca i hi) (h'.cb i hi)]
      simp only [Option.bind_some]
      cases leqr (gx b i dCongr) (gx b i dCongr) <;> rfl) (by
      simp only [LD.m, f116v4_l6, nt, Int.lt_irrefl, decide_false, cond_false])]
    simp only [Option.bind_some]
    cases (List.range b.length).all fun i => leqr (gx b i dCongr) (gx b i dCongr) <;> rfl
theorem leqr_self {c : TCongr} (h : CR c) : leqr c c = true := by
  unfold leqr
  cases h1 : c.1
  · simp only [cond_false]
    obtain ⟨a0, a1, a2, a3, a4, a5⟩ := h.bounds h1
    by_cases h0 : c.2.1 = 0
    · have := a5 h0
      simp [hasc, h1, h0, a2, this]
    · simp [h0]
  · rfl
theorem leqL_self {a:List TCongr} (h:Pair a a):leqL a a=true:=List.all_eq_true.2 fun i hi=>leqr_self (h.ca i (List.mem_range.1 hi))
structure PairM (a b:TMods):Prop where
 v:Pair a.2.1 b.2.1
 w:Pair a.2.2 b.2.2
def leqM (a b:TMods):Bool:=cond a.1 (cond b.1 (leqL a.2.1 b.2.1&&leqL a.2.2 b.2.2) false) true
theorem f25v1_eq {a b : TMods} (h : a.1 = true → b.1 = true → PairM a b) : f25v1_m (a.1, b.1, a.2.1, a.2.2, b.2.1, b.2.2) = some (leqM a b) := by
  unfold f25v1_m f25v1_c leqM
  cases h1 : a.1
  · simp
  · cases h2 : b.1
    · simp
    · obtain ⟨hv, hw⟩ := h h1 h2
      simp only [Bool.not_true, cond_false, cond_true, PD.m, f25v1_q4]
      rw [f116v3_eq hv hw]
      simp only [Option.bind_some]
      cases leqL a.2.1 b.2.1 && leqL a.2.2 b.2.2 <;> rfl
theorem f35_eq {a b : TMods} (h : a.1 = true → b.1 = true → PairM a b) : f35_m (a, b) = some (leqM a b) := by
  unfold f35_m f35_c leqM
  cases h1 : a.1
  · simp [h1]
  · cases h2 : b.1
    · simp [h1, h2]
    · obtain ⟨hv, hw⟩ := h h1 h2
      simp only [h1, h2, Bool.not_true, cond_false, cond_true]
      rw [f75_eq hv]
      simp only [Option.bind_some]
      cases leqL a.2.1 b.2.1
      · rfl
      · simp only [cond_true, Bool.true_and]
        rw [f75_eq hw]; rfl
theorem f25v2_eq {a : TMods} (h : a.1 = true → PairM a a) : f25v2_m (a.1, a.1, a.2.1, a.2.2) = some true := by
  unfold f25v2_m f25v2_c
  cases h1 : a.1
  · simp
  · obtain ⟨hv, hw⟩ := h h1
    simp only [Bool.not_true, cond_false, PD.m, f25v2_q4]
    rw [f116v4_eq hv hw, leqL_self hv, leqL_self hw]; rfl
def joinM (a b:TMods):TMods:=cond a.1 (cond b.1 (true,(joinL a.2.1 b.2.1,joinL a.2.2 b.2.2)) a) b
structure Small (a:TMods):Prop where
 v:a.2.1.length≤1048576
 w:a.2.2.length≤1048576
theorem f49v1_eq {s:Bool} {a b:List TCongr} (h1:a.length≤1048576) (h2:b.length≤1048576):f49v1_m (s,a,b)=some ():=by
 unfold f49v1_m f49v1_c
 simp only [len24 h1,len24 h2,ask_true]
theorem f15_eq {a:TMods} (h:Small a):f15_m a=some ():=by
 unfold f15_m f15_c
 simp only [len24 h.v,len24 h.w,ask_true]
theorem f36_eq {a b : TMods} (h : a.1 = true → b.1 = true → PairM a b) : f36_m (a, b) = some (joinM a b) := by
  unfold f36_m f36_c joinM
  cases h1 : a.1
  · simp
  · cases h2 : b.1
    · simp
    · obtain ⟨hv, hw⟩ := h h1 h2
      simp only [Bool.not_true, cond_false, cond_true]
      rw [f76_eq hv]
      simp only [Option.bind_some]
      rw [f76_eq hw]; rfl
theorem f26v1_eq {a b : TMods} (hd : b.1 = false → b = (false, ([], []))) (sa : Small a) (sb : Small b) (h : a.1 = true → b.1 = true → PairM a b) : f26v1_m (a.1, b.1, a.2.1, a.2.2, b.2.1, b.2.2) = some (joinM a b) := by
  unfold f26v1_m f26v1_c joinM
  obtain ⟨a1, a2, a3⟩ := a
  obtain ⟨b1, b2, b3⟩ := b
  simp only at hd h ⊢
  cases a1
  · cases b1
    · rw [hd rfl]; rfl
    · simp only [Bool.not_true, Bool.not_false, cond_false, cond_true]
      rw [f49v1_eq sb.v sb.w]; rfl
  · cases b1
    · simp only [Bool.not_true, Bool.not_false, cond_false, cond_true]
      rw [f49v1_eq sa.v sa.w]; rfl
    · obtain ⟨hv, hw⟩ := h rfl rfl
      simp only [Bool.not_true, Bool.not_false, cond_false, cond_true, PD.m, f26v1_q9]
      rw [f49v1_eq sa.v sa.w]
      simp only [Option.bind_some]
      rw [f116v2_eq hv hw]; rfl
def fitc (c:TCongr):Bool:=cond c.1 (decide (c.2.1=0)&&decide (c.2.2=0)) (decide (0≤c.2.1)&&eqb (nf c.2.1 c.2.2) c)
def goodc (c:TCongr):Bool:= !c.1&&fitc c
def goods (l:List TCongr):Bool:=(List.range l.length).all fun i=>goodc (gx l i dCongr)
theorem p73_eq {c : TCongr} (h : CI c) (hb : c.1 = false) : f73_m c = some (fitc c) := by
  obtain ⟨⟨h1, h2⟩, h3, h4⟩ := h
  unfold f73_m f73_c fitc
  rw [hb]
  simp only [cond_false]
  by_cases hm : 0 ≤ c.2.1
  · simp only [hm, decide_true, cond_true, Bool.true_and]
    rw [f122_eq h1 h2 h3 h4, show (c.2.1.natAbs : Int) = c.2.1 by omega]
    simp only [Option.bind_some]
    rw [← hb]; rfl
  · simp [hm]
theorem p82_eq {c : TCongr} (h : CI c) (hb : c.1 = false) : f82_m c = some (fitc c) := by
  obtain ⟨⟨h1, h2⟩, h3, h4⟩ := h
  unfold f82_m f82_c fitc
  rw [hb]
  simp only [cond_false]
  by_cases hm : 0 ≤ c.2.1
  · simp only [hm, decide_true, cond_true, Bool.true_and]
    rw [f71_eq h1 h2 h3 h4, show (c.2.1.natAbs : Int) = c.2.1 by omega]
    simp only [Option.bind_some]
    obtain ⟨b, m, x⟩ := c
    simp only at hb
    subst hb
    unfold eqb
    rcases nf m x with ⟨b1, m1, x1⟩
    have e1 : decide (m = m1) = decide (m1 = m) := decide_eq_decide.2 eq_comm
    have e2 : decide (x = x1) = decide (x1 = x) := decide_eq_decide.2 eq_comm
    cases b1 <;> simp only [e1, e2] <;> rfl
  · simp [hm]
theorem p72_eq {c : TCongr} (h : CI c) : f72_m c = some (!goodc c) := by
  unfold f72_m f72_c goodc
  cases hb : c.1
  · simp only [cond_false]
    rw [p73_eq h hb]; simp
  · rfl
theorem p74_eq {l : List TCongr} (hl : l.length ≤ 9223372036854775807) (hc : ∀ c ∈ l, CI c) : f74_m l = some (!goods l) := by
  unfold f74_m f74_c f125_m f125_c
  obtain ⟨e, h1, h2⟩ := each_tot2 (n := l.length) (step := f125_l2.m (l, nt l.length)) hl (fun k => ∀ j, j < k → goodc (gx l j dCongr) = true) (fun e => (∃ i : Nat, e = .inl (i : Int) ∧ goods l = false) ∨ (e = .inr () ∧ goods l = true)) (fun j h => absurd h (Nat.not_lt_zero _)) (fun k hk hI => by
    have h' : (k : Int) < (l.length : Int) := by omega
    simp only [LD.m, f125_l2, nt, h', decide_true, cond_true, inR hk, ask_true, Int.toNat_natCast]
    rw [p72_eq (hc _ (List.mem_of_getElem? (gx_lt hk)))]
    simp only [Option.bind_some]
    cases hg : goodc (gx l k dCongr)
    · exact gd_ke (.inl ⟨k, rfl, List.all_eq_false.2 ⟨k, List.mem_range.2 hk, by rw [hg]; simp⟩⟩)
    · exact gd_ki fun j hj => by
        by_cases e : j = k
        · subst e; exact hg
        · exact hI j (by omega)) (fun hI => by
    simp only [LD.m, f125_l2, nt, Int.lt_irrefl, decide_false, cond_false]
    exact ⟨_, rfl, .inr ⟨rfl, List.all_eq_true.2 fun j hj => hI j (List.mem_range.1 hj)⟩⟩)
  rw [h1]
  simp only [Option.bind_some]
  rcases h2 with ⟨i, rfl, hg⟩ | ⟨rfl, hg⟩
  · have : (0 : Int) ≤ (i : Int) := by omega
    simp [hg, this]
  · simp [hg]
theorem p44_eq {l : List TCongr} {n : Int} (hl : l.length ≤ 9223372036854775807) (hc : ∀ c ∈ l, CI c) : f44_m (l, n) = some (decide ((l.length : Int) = n) && goods l) := by
  unfold f44_m f44_c
  simp only [nt]
  by_cases hn : (l.length : Int) = n
  · subst hn
    simp only [decide_true, Bool.not_true, cond_false, Bool.true_and]
    rw [loop_all (n := l.length) hl (p := fun i => goodc (gx l i dCongr)) (fun i hi => by
      have h' : (i : Int) < (l.length : Int) := by omega
      simp only [LD.m, f44_l4, h', decide_true, cond_true, inR hi, ask_true, Int.toNat_natCast]
      unfold goodc
      cases hb : (gx l i dCongr).1
      · simp only [cond_false]
        rw [p82_eq (hc _ (List.mem_of_getElem? (gx_lt hi))) hb]
        simp only [Option.bind_some, Bool.not_false, Bool.true_and]
        cases fitc (gx l i dCongr) <;> rfl
      · rfl) (by
      simp only [LD.m, f44_l4, Int.lt_irrefl, decide_false, cond_false])]
    simp only [Option.bind_some]
    show _ = some (goods l)
    unfold goods
    cases (List.range l.length).all fun i => goodc (gx l i dCongr) <;> rfl
  · simp [hn]
def fitM (g:TGraph) (s:TMods):Bool:=cond s.1 (decide ((s.2.1.length:Int)=(scs g).length)&&(decide ((s.2.2.length:Int)=(inps g).length)&&(goods s.2.1&&goods s.2.2))) (decide ((s.2.1.length:Int)=0)&&decide ((s.2.2.length:Int)=0))
theorem f34_eq {g : TGraph} {s : TMods} (h : LensM s) : f34_m (g, s) = some (fitM g s) := by
  unfold f34_m f34_c fitM
  cases hb : s.1
  · simp only [Bool.not_false, cond_true, cond_false, nt]
    by_cases e1 : (s.2.1.length : Int) = 0
    · simp [e1]
    · have e2 : ¬ s.2.1 = [] := fun e => e1 (by rw [e]; rfl)
      simp [e2]
  · simp only [Bool.not_true, cond_true, cond_false, nt]
    by_cases e1 : (s.2.1.length : Int) = (List.length g.2.2.2.2.2.1 : Int)
    · by_cases e2 : (s.2.2.length : Int) = (List.length g.2.2.2.2.2.2.1 : Int)
      · simp only [e1, e2, decide_true, cond_true, Bool.true_and]
        rw [p74_eq h.a h.ca]
        simp only [Option.bind_some]
        cases goods s.2.1
        · rfl
        · simp only [Bool.not_true, Bool.not_false, cond_true, Bool.true_and]
          rw [p74_eq h.b h.cb]; simp
      · simp [e1, e2]
    · simp [e1]
theorem f11_ex {g : TGraph} {s : TMods} (h : LensM s) : f11_m (g, s) = some (fitM g s) := by
  unfold f11_m f11_c fitM
  cases hb : s.1
  · simp only [Bool.not_false, cond_true, cond_false, nt]
    by_cases e1 : (s.2.1.length : Int) = 0
    · simp [e1]
    · have e2 : ¬ s.2.1 = [] := fun e => e1 (by rw [e]; rfl)
      simp [e2]
  · simp only [Bool.not_true, cond_true, cond_false, nt]
    rw [p44_eq h.a h.ca]
    simp only [Option.bind_some]
    by_cases e1 : (s.2.1.length : Int) = (List.length g.2.2.2.2.2.1 : Int)
    · simp only [e1, decide_true, Bool.true_and]
      cases goods s.2.1
      · simp
      · simp only [cond_true, Bool.true_and]
        rw [p44_eq h.b h.cb]; rfl
    · simp [e1]
end Go.U
end
section
set_option maxRecDepth 20000
namespace Go.U
open Go
theorem init_of {S:Nat} {g:TGraph} {D:List Int} (h:okC S cGraph g) (hG:FitG g D):InitOK g:=by
 obtain ⟨_,_,_,_,_,⟨_,hn1⟩,⟨_,hn2⟩,_⟩:=h
 have h1:=hG.S;have h2:=hG.A
 exact ⟨by omega,by omega,fun i hi=>okI64 (hn1 _ (List.mem_of_getElem? (gx_lt (d:=dScalar) hi))).2.2,fun i hi=>okI64 (hn2 _ (List.mem_of_getElem? (gx_lt (d:=dArray) hi))).2.2.2⟩
theorem pairM_of {g:TGraph} {D:List Int} {a b:TMods} (hG:FitG g D) (ha:FitS g a) (hb:FitS g b):PairM a b:=by
 have h1:=hG.S;have h2:=hG.A;have a1:=ha.sl;have a2:=ha.il;have b1:=hb.sl;have b2:=hb.il
 exact ⟨⟨by omega,by omega,ha.sc,fun i hi=>hb.sc i (by omega)⟩,⟨by omega,by omega,ha.ic,fun i hi=>hb.ic i (by omega)⟩⟩
theorem dead_of {g:TGraph} {a:TMods} (h:fitM g a=true) (h1:a.1=false):a=(false,([],[])):=by
 obtain ⟨b,v,w⟩:=a
 simp only at h1
 subst h1
 simp [fitM] at h
 obtain ⟨h1,h2⟩:=h
 rw [h1,h2]
theorem small_of {g : TGraph} {D : List Int} {a : TMods} (hG : FitG g D) (hf : a.1 = true → FitS g a) (hd : a.1 = false → a = (false, ([], []))) : Small a := by
  have h1 := hG.S; have h2 := hG.A
  cases hb : a.1
  · rw [hd hb]; exact ⟨Nat.zero_le _, Nat.zero_le _⟩
  · have a1 := (hf hb).sl; have a2 := (hf hb).il
    exact ⟨by omega, by omega⟩
theorem join_small {a b : TMods} (sa : Small a) (sb : Small b) : Small (joinM a b) := by
  unfold joinM
  cases a.1
  · exact sb
  · cases b.1
    · exact sa
    · exact ⟨by show (joinL _ _).length ≤ _; unfold joinL; rw [List.length_map, List.length_range]; exact sa.v, by show (joinL _ _).length ≤ _; unfold joinL; rw [List.length_map, List.length_range]; exact sa.w⟩
theorem math9 (g : TGraph) (a b : TMods) (hg : okC maxLen cGraph g) (ha : okC maxLen cMods a) (hb : okC maxLen cMods b) : f9_m (g, a, b) = some true := by
  have hL := lens_of (Nat.le_refl _) hg
  have hA := lensM_of (Nat.le_refl _) ha
  have hB := lensM_of (Nat.le_refl _) hb
  unfold f9_m f9_c
  obtain ⟨r1, q1, q2⟩ := f10_eq hL
  simp only
  rw [q1]
  simp only [Option.bind_some]
  cases r1
  · simp only [Bool.not_false, cond_true]; rw [awake]; rfl
  · obtain ⟨D, hG⟩ := q2 rfl
    have hI := init_of hg hG
    simp only [Bool.not_true, cond_false]
    rw [f32_eq hI]
    simp only [Option.bind_some]
    rw [f33_eq hI]
    simp only [Option.bind_some]
    rw [f17_self (s := (true, (initS g, initA g))) (by show (initS g).length ≤ _; unfold initS; rw [List.length_map, List.length_range]; exact hI.s) (by show (initA g).length ≤ _; unfold initA; rw [List.length_map, List.length_range]; exact hI.a)]
    simp only [Option.bind_some, Bool.not_true, cond_false]
    rw [f34_eq hA]
    simp only [Option.bind_some]
    rw [f11_ex hA]
    simp only [Option.bind_some, beq_self_eq_true, Bool.not_true, cond_false]
    have e1 : f34v1_m (g, false) = some true := rfl
    rw [e1]
    simp only [Option.bind_some, Bool.not_true, cond_false]
    have fa : fitM g a = true → a.1 = true → FitS g a := fun h => by
      obtain ⟨r, r1, r2⟩ := f11_eq (g := g) hA
      rw [f11_ex hA] at r1
      injection r1 with r1
      exact r2 (r1 ▸ h)
    have fb : fitM g b = true → b.1 = true → FitS g b := fun h => by
      obtain ⟨r, r1, r2⟩ := f11_eq (g := g) hB
      rw [f11_ex hB] at r1
      injection r1 with r1
      exact r2 (r1 ▸ h)
    cases ga : fitM g a
    · simp only [Bool.not_false, cond_true]; rw [awake]; rfl
    · simp only [Bool.not_true, cond_false]
      rw [f11_ex hB]
      simp only [Option.bind_some]
      cases gb : fitM g b
      · simp only [Bool.not_false, cond_true]; rw [awake]; rfl
      · simp only [Bool.not_true, cond_false]
        have fa := fa ga; have fb := fb gb
        have sa := small_of hG fa (dead_of ga)
        have sb := small_of hG fb (dead_of gb)
        have hP : a.1 = true → b.1 = true → PairM a b := fun h1 h2 => pairM_of hG (fa h1) (fb h2)
        have hQ : a.1 = true → PairM a a := fun h1 => pairM_of hG (fa h1) (fa h1)
        rw [f15_eq sa]
        simp only [Option.bind_some]
        rw [f15_eq sb]
        simp only [Option.bind_some]
        rw [f26v1_eq (dead_of gb) sa sb hP]
        simp only [Option.bind_some]
        rw [f25v1_eq hP]
        simp only [Option.bind_some]
        rw [f35_eq hP]
        simp only [Option.bind_some, beq_self_eq_true, Bool.not_true, cond_false]
        rw [f25v2_eq hQ]
        simp only [Option.bind_some, Bool.not_true, cond_false]
        rw [f17v1_self sa.v sa.w]
        simp only [Option.bind_some, Bool.not_true, cond_false]
        rw [f17v1_self sb.v sb.w]
        simp only [Option.bind_some, Bool.not_true, cond_false]
        obtain ⟨r1, s1⟩ := f18_tot (b := a.1) sa.v sa.w
        obtain ⟨r2, s2⟩ := f18_tot (b := b.1) sb.v sb.w
        rw [s1]
        simp only [Option.bind_some]
        rw [s2]
        simp only [Option.bind_some]
        rw [f36_eq hP]
        simp only [Option.bind_some]
        have hj := join_small sa sb
        rw [f17_self hj.v hj.w]
        simp only [Option.bind_some, cond_true]
        rw [awake]; rfl
end Go.U
end
