/- What these Lean functions compute: plain arithmetic of congruences, the checks of a graph, the values of its registers. -/
import Derived.Test.YtcbcifeaalkdfaaGreatDoorD3
import Derived.Lib.ItoaNum
import Derived.Lib.ItoaLen
set_option linter.unusedVariables false
set_option linter.unusedSimpArgs false
set_option linter.unusedSectionVars false
section
set_option maxRecDepth 20000
namespace Go.U
open Go
theorem CR.rem {c : TCongr} (h : CR c) (h1 : c.1 = false) (h0 : c.2.1 ≠ 0) : c.2.2 = c.2.2 % c.2.1 ∧ 0 ≤ c.2.2 ∧ c.2.2 < c.2.1 := by
  rcases h with rfl | ⟨_, h2, h3⟩
  · simp at h1
  · obtain ⟨b, m, x⟩ := c
    simp only at h0 h2 h3 ⊢
    have k1 := Int.emod_nonneg x h0
    have k2 := Int.emod_lt_of_pos x (show 0 < m by omega)
    have e : x = x % m := by
      unfold nf at h3
      rw [if_neg h0] at h3
      split at h3
      · simp only [Prod.mk.injEq] at h3; exact absurd h3.2.1.symm h0
      · split at h3
        · simp only [Prod.mk.injEq] at h3; exact absurd h3.2.1.symm h0
        · simp only [Prod.mk.injEq] at h3; exact h3.2.2.symm
    exact ⟨e, by omega, by omega⟩
def hasc (c:TCongr) (v:Int):Bool:= !c.1&&(decide (-2147483648≤v)&&decide (v≤2147483647))&&(if c.2.1=0 then decide (v=c.2.2) else decide (v%c.2.1=c.2.2))
theorem f64_eq {c : TCongr} (h : CR c) (v : Int) : f64_m (c, v) = some (hasc c v) := by
  unfold f64_m f64_c hasc
  cases hb : c.1
  · obtain ⟨a0, a1, a2, a3, a4, a5⟩ := h.bounds hb
    simp only [cond_false, Bool.not_false, Bool.true_and]
    by_cases h1 : v < -2147483648
    · have : ¬ -2147483648 ≤ v := by omega
      simp [h1, this]
    · by_cases h2 : 2147483647 < v
      · have : ¬ v ≤ 2147483647 := by omega
        simp [h1, h2, this]
      · have e1 : -2147483648 ≤ v := by omega
        have e2 : v ≤ 2147483647 := by omega
        simp only [h1, h2, e1, e2, decide_true, decide_false, cond_false, Bool.true_and]
        by_cases h0 : c.2.1 = 0
        · simp [h0]
        · obtain ⟨r1, r2, r3⟩ := h.rem hb h0
          simp only [h0, decide_false, cond_false, if_false]
          rw [wu64_of (n := c.2.1) a0 (by omega), wu64_of (n := c.2.2) r2 (by omega), f117_eq (by omega) (by omega) (by omega) (by omega)]
          rfl
  · simp
end Go.U
end
section
set_option maxRecDepth 20000
namespace Go.U
open Go
theorem tmod_zero_iff {a m:Int}:Int.tmod a m=0↔m ∣ a:=⟨fun h=>Int.dvd_of_tmod_eq_zero h,fun h=>Int.tmod_eq_zero_of_dvd h⟩
theorem rem_iff {v m r : Int} (hm : m ≠ 0) (h0 : 0 ≤ r) (h1 : r < m) : Int.tmod (v - r) m = 0 ↔ v % m = r := by
  rw [tmod_zero_iff]
  have hr : r % m = r := Int.emod_eq_of_lt h0 h1
  constructor
  · intro h
    have := Int.emod_emod_of_dvd v (Int.dvd_refl m)
    have e : (v - r) % m = 0 := Int.emod_eq_zero_of_dvd h
    have e2 := Int.emod_eq_emod_iff_emod_sub_eq_zero.2 e
    rw [e2, hr]
  · intro h
    refine Int.dvd_of_emod_eq_zero ?_
    exact Int.emod_eq_emod_iff_emod_sub_eq_zero.1 (by rw [h, hr])
theorem f65_eq {c : TCongr} (h : CR c) (v : Int) : f65_m (c, v) = some (hasc c v) := by
  unfold f65_m f65_c hasc
  cases hb : c.1
  · obtain ⟨a0, a1, a2, a3, a4, a5⟩ := h.bounds hb
    simp only [cond_false, Bool.not_false, Bool.true_and]
    by_cases h1 : v < -2147483648
    · have : ¬ -2147483648 ≤ v := by omega
      simp [h1, this]
    · by_cases h2 : 2147483647 < v
      · have : ¬ v ≤ 2147483647 := by omega
        simp [h1, h2, this]
      · have e1 : -2147483648 ≤ v := by omega
        have e2 : v ≤ 2147483647 := by omega
        simp only [h1, h2, e1, e2, decide_true, decide_false, cond_false, Bool.true_and]
        by_cases h0 : c.2.1 = 0
        · simp [h0]
        · obtain ⟨r1, r2, r3⟩ := h.rem hb h0
          simp only [h0, decide_false, cond_false, if_false]
          rw [wi64_of (by omega) (by omega)]
          congr 1
          have := rem_iff (v := v) h0 r2 r3
          by_cases hh : v % c.2.1 = c.2.2
          · simp [hh, this.2 hh]
          · have h' : ¬ Int.tmod (v - c.2.2) c.2.1 = 0 := fun e => hh (this.1 e)
            simp [hh, h']
  · simp
end Go.U
end
section
set_option maxRecDepth 20000
namespace Go.U
open Go
theorem loop_all {n : Nat} (hn : n ≤ 9223372036854775807) {p : Nat → Bool} {step : Int → Option (Int ⊕ (Unit ⊕ Unit))} (hs : ∀ i : Nat, i < n → step (i : Int) = some (cond (p i) (.inl (wi64 ((i : Int) + 1))) (.inr (.inl ()))))
    (he : step (n : Int) = some (.inr (.inr ()))) : loopAll step 0 = some (cond ((List.range n).all p) (.inr ()) (.inl ())) := by
  obtain ⟨e, h1, h2⟩ := each_tot2 (n := n) (step := step) hn (fun k => ∀ j, j < k → p j = true) (fun e => (e = .inl () ∧ (List.range n).all p = false) ∨ (e = .inr () ∧ (List.range n).all p = true)) (fun j h => absurd h (Nat.not_lt_zero _)) (fun i hi hI => by
    rw [hs i hi]
    cases hp : p i
    · refine gd_ke (.inl ⟨rfl, ?_⟩)
      rw [List.all_eq_false]
      exact ⟨i, List.mem_range.2 hi, by rw [hp]; simp⟩
    · exact gd_ki fun j hj => by
        by_cases e : j = i
        · subst e; exact hp
        · exact hI j (by omega)) (fun hI => ⟨_, he, .inr ⟨rfl, List.all_eq_true.2 fun j hj => hI j (List.mem_range.1 hj)⟩⟩)
  rw [h1]
  rcases h2 with ⟨rfl, h3⟩ | ⟨rfl, h3⟩ <;> rw [h3] <;> rfl
end Go.U
end
section
set_option maxRecDepth 20000
namespace Go.U
open Go
def allS (l:List TCongr) (v:List Int):Bool:=(List.range v.length).all fun i=>hasc (gx l i dCongr) (gx v i (0:Int))
def allA (l:List TCongr) (vs:List (List Int)):Bool:=(List.range vs.length).all fun t=>(List.range (gx vs t []).length).all fun j=>hasc (gx l t dCongr) (gx (gx vs t []) j (0:Int))
def hasS (s:TMods) (v:List Int) (vs:List (List Int)):Bool:=
 s.1&&(decide ((v.length:Int)=(s.2.1.length:Int))&&(decide ((vs.length:Int)=(s.2.2.length:Int))&&(allS s.2.1 v&&allA s.2.2 vs)))
structure LensV (v:List Int) (vs:List (List Int)):Prop where
 lv:v.length≤9223372036854775807
 lvs:vs.length≤9223372036854775807
 e:∀ t,t<vs.length→(gx vs t []).length≤9223372036854775807
theorem cond_swap {α:Type} {b:Bool} {x y:α}:cond (!b) x y=cond b y x:=by cases b<;>rfl
theorem f28_eq {s : TMods} {v : List Int} {vs : List (List Int)} (hL : LensV v vs) (hs : s.1 = true → (∀ j, j < s.2.1.length → CR (gx s.2.1 j dCongr)) ∧ ∀ j, j < s.2.2.length → CR (gx s.2.2 j dCongr)) : f28_m (s, v, vs) = some (hasS s v vs) := by
  unfold f28_m f28_c hasS
  cases hb : s.1
  · simp [hb]
  · obtain ⟨c1, c2⟩ := hs hb
    simp only [hb, Bool.not_true, cond_false, Bool.true_and, nt]
    by_cases h1 : (v.length : Int) = (s.2.1.length : Int)
    · by_cases h2 : (vs.length : Int) = (s.2.2.length : Int)
      · simp only [h1, h2, decide_true, Bool.not_true, cond_false, Bool.true_and]
        rw [loop_all (n := v.length) hL.lv (p := fun i => hasc (gx s.2.1 i dCongr) (gx v i (0 : Int))) (fun i hi => by
          have h' : (i : Int) < (s.2.1.length : Int) := by omega
          have hi2 : i < s.2.1.length := by omega
          simp only [LD.m, f28_l4, h', decide_true, cond_true, inR hi, inR hi2, ask_true, Int.toNat_natCast]
          rw [f64_eq (c1 i hi2)]
          simp only [Option.bind_some]
          cases hasc (gx s.2.1 i dCongr) (gx v i (0 : Int)) <;> rfl) (by
          have h' : ¬ (v.length : Int) < (s.2.1.length : Int) := by omega
          simp only [LD.m, f28_l4, h', decide_false, cond_false])]
        simp only [Option.bind_some]
        show _ = some (allS s.2.1 v && allA s.2.2 vs)
        unfold allS
        cases (List.range v.length).all fun i => hasc (gx s.2.1 i dCongr) (gx v i (0 : Int))
        · rfl
        · simp only [cond_true, Sum.elim_inr, Bool.true_and]
          rw [loop_all (n := vs.length) hL.lvs (p := fun t => (List.range (gx vs t []).length).all fun j => hasc (gx s.2.2 t dCongr) (gx (gx vs t []) j (0 : Int))) (fun t ht => by
            have h' : (t : Int) < (s.2.2.length : Int) := by omega
            have ht2 : t < s.2.2.length := by omega
            simp only [LD.m, f28_l10, h', decide_true, cond_true, inR ht, ask_true, Int.toNat_natCast, nt]
            rw [loop_all (n := (gx vs t []).length) (hL.e t ht) (p := fun j => hasc (gx s.2.2 t dCongr) (gx (gx vs t []) j (0 : Int))) (fun j hj => by
              have h' : (j : Int) < ((gx vs t []).length : Int) := by omega
              simp only [LD.m, f28_l13, h', decide_true, cond_true, inR hj, inR ht2, ask_true, Int.toNat_natCast]
              rw [f64_eq (c2 t ht2)]
              simp only [Option.bind_some]
              cases hasc (gx s.2.2 t dCongr) (gx (gx vs t []) j (0 : Int)) <;> rfl) (by
              simp only [LD.m, f28_l13, Int.lt_irrefl, decide_false, cond_false])]
            simp only [Option.bind_some]
            cases (List.range (gx vs t []).length).all fun j => hasc (gx s.2.2 t dCongr) (gx (gx vs t []) j (0 : Int)) <;> rfl) (by
            have h' : ¬ (vs.length : Int) < (s.2.2.length : Int) := by omega
            simp only [LD.m, f28_l10, h', decide_false, cond_false])]
          simp only [Option.bind_some]
          unfold allA
          cases (List.range vs.length).all fun t => (List.range (gx vs t []).length).all fun j => hasc (gx s.2.2 t dCongr) (gx (gx vs t []) j (0 : Int)) <;> rfl
      · simp [h1, h2]
    · simp [h1]
end Go.U
end
section
set_option maxRecDepth 20000
namespace Go.U
open Go
theorem f29_eq {s : TMods} {v : List Int} {vs : List (List Int)} (hL : LensV v vs) (hs : s.1 = true → (∀ j, j < s.2.1.length → CR (gx s.2.1 j dCongr)) ∧ ∀ j, j < s.2.2.length → CR (gx s.2.2 j dCongr)) : f29_m (s, v, vs) = some (hasS s v vs) := by
  unfold f29_m f29_c hasS
  cases hb : s.1
  · simp [hb]
  · obtain ⟨c1, c2⟩ := hs hb
    simp only [hb, Bool.not_true, cond_false, Bool.true_and, nt]
    by_cases h1 : (v.length : Int) = (s.2.1.length : Int)
    · by_cases h2 : (vs.length : Int) = (s.2.2.length : Int)
      · simp only [h1, h2, decide_true, Bool.not_true, cond_false, Bool.true_and]
        rw [loop_all (n := v.length) hL.lv (p := fun i => hasc (gx s.2.1 i dCongr) (gx v i (0 : Int))) (fun i hi => by
          have h' : (i : Int) < (v.length : Int) := by omega
          have hi2 : i < s.2.1.length := by omega
          simp only [LD.m, f29_l4, nt, h', decide_true, cond_true, inR hi, inR hi2, ask_true, Int.toNat_natCast]
          rw [f65_eq (c1 i hi2)]
          simp only [Option.bind_some]
          cases hasc (gx s.2.1 i dCongr) (gx v i (0 : Int)) <;> rfl) (by
          simp only [LD.m, f29_l4, nt, Int.lt_irrefl, decide_false, cond_false])]
        simp only [Option.bind_some]
        show _ = some (allS s.2.1 v && allA s.2.2 vs)
        unfold allS
        cases (List.range v.length).all fun i => hasc (gx s.2.1 i dCongr) (gx v i (0 : Int))
        · rfl
        · simp only [cond_true, Sum.elim_inr, Bool.true_and]
          rw [loop_all (n := vs.length) hL.lvs (p := fun t => (List.range (gx vs t []).length).all fun j => hasc (gx s.2.2 t dCongr) (gx (gx vs t []) j (0 : Int))) (fun t ht => by
            have h' : (t : Int) < (vs.length : Int) := by omega
            have ht2 : t < s.2.2.length := by omega
            simp only [LD.m, f29_l9, nt, h', decide_true, cond_true]
            rw [loop_all (n := (gx vs t []).length) (hL.e t ht) (p := fun j => hasc (gx s.2.2 t dCongr) (gx (gx vs t []) j (0 : Int))) (fun j hj => by
              have h' : (j : Int) < ((gx vs t []).length : Int) := by omega
              simp only [LD.m, f29_l12, nt, inR ht, ask_true, Int.toNat_natCast, h', decide_true, cond_true, inR hj, inR ht2]
              rw [f65_eq (c2 t ht2)]
              simp only [Option.bind_some]
              cases hasc (gx s.2.2 t dCongr) (gx (gx vs t []) j (0 : Int)) <;> rfl) (by
              simp only [LD.m, f29_l12, nt, inR ht, ask_true, Int.toNat_natCast, Int.lt_irrefl, decide_false, cond_false])]
            simp only [Option.bind_some]
            cases (List.range (gx vs t []).length).all fun j => hasc (gx s.2.2 t dCongr) (gx (gx vs t []) j (0 : Int)) <;> rfl) (by
            simp only [LD.m, f29_l9, nt, Int.lt_irrefl, decide_false, cond_false])]
          simp only [Option.bind_some]
          unfold allA
          cases (List.range vs.length).all fun t => (List.range (gx vs t []).length).all fun j => hasc (gx s.2.2 t dCongr) (gx (gx vs t []) j (0 : Int)) <;> rfl
      · simp [h1, h2]
    · simp [h1]
end Go.U
end
section
set_option maxRecDepth 20000
namespace Go.U
open Go
def toI (l:List UInt8):List Int:=l.map fun b=>(b.toNat:Int)
theorem dec_big {u:Nat} (h:¬ u<10):Lib.decDigits u=Lib.decDigits (u/10)++[UInt8.ofNat (48+u%10)]:=by rw [Lib.decDigits,dif_neg h]
theorem dig_eq {w:Nat}:wu8 (wu64 ((48:Int)+(Int.tmod (w:Int) 10)))=((UInt8.ofNat (48+w%10)).toNat:Int):=by
 have e:Int.tmod (w:Int) 10=((w%10:Nat):Int):=rfl
 rw [e]
 have hlt:w%10<10:=Nat.mod_lt _ (by decide)
 generalize w%10=d at hlt
 have:d=0∨d=1∨d=2∨d=3∨d=4∨d=5∨d=6∨d=7∨d=8∨d=9:=by omega
 rcases this with rfl|rfl|rfl|rfl|rfl|rfl|rfl|rfl|rfl|rfl<;>decide
theorem f121l8_eq (u : Nat) (hu : u < 9223372036854775808) (r : Int) : loopAll (f121_l8.m r) ((u : Int), []) = some (toI (Lib.decDigits u)) := by
  have hl := Lib.nDigits_le20 u (by omega)
  rw [← Lib.decDigits_length] at hl
  obtain ⟨e, h1, h2⟩ := loopAll_of (step := f121_l8.m r) (t := ((u : Int), [])) (fun t => ∃ w : Nat, t.1 = (w : Int) ∧ w ≤ u ∧ toI (Lib.decDigits w) ++ t.2 = toI (Lib.decDigits u)) (fun t => t.1.toNat) (fun e => e = toI (Lib.decDigits u)) ⟨u, rfl, Nat.le_refl _, by simp⟩ (by simp only; omega) (fun t ⟨w, ht, hw, hI⟩ => by
    obtain ⟨ti, l⟩ := t
    simp only at ht hI
    subst ht
    have hlen : (Lib.decDigits w).length + l.length = (Lib.decDigits u).length := by
      have := congrArg List.length hI
      simpa [toI] using this
    have hpos : 1 ≤ (Lib.decDigits w).length := by rw [Lib.decDigits_length]; exact Lib.nDigits_pos w
    simp only [LD.m, f121_l8, dig_eq]
    have b1 : (decide (((List.length ([((UInt8.ofNat (48 + w % 10)).toNat : Int)] : List Int)) + (List.length l)) * 1 ≤ 70368744177664) && decide (((List.length ([((UInt8.ofNat (48 + w % 10)).toNat : Int)] : List Int)) + (List.length l)) < 9223372036854775808)) = true := by
      simp; omega
    rw [b1, ask_true]
    have e : Int.tdiv (w : Int) 10 = ((w / 10 : Nat) : Int) := rfl
    rw [e, wu64_of (by omega) (by omega)]
    by_cases h : w < 10
    · have h0 : ((w / 10 : Nat) : Int) = 0 := by omega
      simp only [h0, decide_true, cond_true]
      refine .inr ⟨_, rfl, ?_⟩
      rw [← hI, Lib.decDigits_one h]
      have : w % 10 = w := Nat.mod_eq_of_lt h
      simp [toI, this]
    · have h0 : ¬ ((w / 10 : Nat) : Int) = 0 := by omega
      simp only [h0, decide_false, cond_false]
      refine .inl ⟨_, rfl, ⟨w / 10, rfl, by omega, ?_⟩, by simp only; omega⟩
      rw [← hI, dec_big h]
      simp [toI])
  rw [h1, h2]
end Go.U
end
section
set_option maxRecDepth 20000
namespace Go.U
open Go
theorem byts_toI (l:List UInt8):byts (toI l)=⟨l.toArray⟩:=by
 have e:(toI l).map (fun n=>UInt8.ofNat n.toNat)=l:=by
  unfold toI
  rw [List.map_map]
  have:((fun n:Int=>UInt8.ofNat n.toNat)∘fun b:UInt8=>(b.toNat:Int))=id:=by funext b;simp
  rw [this,List.map_id]
 unfold byts
 rw [e]
theorem f121_eq {x : Int} (h0 : -4294967296 ≤ x) (h1 : x ≤ 4294967296) : f121_m x = some (itoaB x) := by
  unfold f121_m f121_c f160_m f160_c
  have k1 : ¬ x < -4611686018427387904 := by omega
  have k2 : ¬ 4611686018427387904 < x := by omega
  have k3 : ¬ x = 4611686018427387904 := by omega
  have k4 : ¬ x = -4611686018427387904 := by omega
  simp only [k1, k2, k3, k4, decide_false, cond_false, Option.bind_some]
  unfold f161_m f161_c
  by_cases h : x < 0
  · simp only [h, decide_true, cond_true]
    rw [wi64_of (by omega) (by omega), wu64_of (by omega) (by omega)]
    have e : (0 : Int) - x = ((x.natAbs : Nat) : Int) := by omega
    simp only [Option.bind_some]
    rw [e, f121l8_eq _ (by omega)]
    simp only [Option.bind_some]
    have hl := Lib.nDigits_le20 x.natAbs (by omega)
    rw [← Lib.decDigits_length] at hl
    have b1 : (decide (((List.length ([45] : List Int)) + (List.length (toI (Lib.decDigits x.natAbs)))) * 1 ≤ 70368744177664) && decide (((List.length ([45] : List Int)) + (List.length (toI (Lib.decDigits x.natAbs)))) < 9223372036854775808)) = true := by
      simp [toI]; omega
    rw [b1, ask_true]
    have e2 : ([45] : List Int) ++ toI (Lib.decDigits x.natAbs) = toI (Lib.itoa x) := by unfold Lib.itoa; rw [if_pos h]; rfl
    rw [e2, byts_toI]; rfl
  · simp only [h, decide_false, cond_false]
    rw [wu64_of (by omega) (by omega)]
    have e : x = ((x.toNat : Nat) : Int) := by omega
    simp only [Option.bind_some]
    have hq := f121l8_eq x.toNat (by omega) x
    rw [← e] at hq
    rw [hq]
    simp only [Option.bind_some]
    rw [byts_toI]
    unfold itoaB Lib.itoa; rw [if_neg h]
end Go.U
end
section
set_option maxRecDepth 20000
namespace Go.U
open Go
def textc (c:TCongr):ByteArray:=cond c.1 (str [110,111,110,101]) (if c.2.1=0 then itoaB c.2.2 else if c.2.1=1 then str [97,108,108] else (itoaB c.2.2++str [32,109,111,100,32])++itoaB c.2.1)
theorem itoaB_size {x:Int} (h0: -4294967296≤x) (h1:x≤4294967296):(itoaB x).size≤21:=by
 have e:(itoaB x).size=(Lib.itoa x).length:=by simp [itoaB,ByteArray.size]
 rw [e]
 have h2:=Lib.nDigits_le20 x.natAbs (by omega)
 have h3:=Lib.nDigits_le20 x.toNat (by omega)
 unfold Lib.itoa
 split
 · rw [List.length_cons,Lib.decDigits_length];omega
 · rw [Lib.decDigits_length];omega
theorem f120_eq {x:Int} (h0: -4294967296≤x) (h1:x≤4294967296):f120_m (x,10)=some (itoaB x):=by
 unfold f120_m
 have k1: -9223372036854775808≤x:=by omega
 have k2:x≤9223372036854775807:=by omega
 simp only [k1,k2,decide_true,Bool.true_and,ask_true]
theorem f119_eq {x:Int} (h0: -4294967296≤x) (h1:x≤4294967296):f119_m x=some (itoaB x):=by
 unfold f119_m f119_c f158_m f158_c
 have k1:¬ 4611686018427387904≤x:=by omega
 have k2:¬ x≤ -4611686018427387904:=by omega
 simp only [k1,k2,decide_false,cond_false,Option.bind_some]
 rw [f120_eq h0 h1];rfl
end Go.U
end
section
set_option maxRecDepth 20000
namespace Go.U
open Go
theorem f67_eq {c : TCongr} (h : CR c) : f67_m c = some (textc c) ∧ f69_m c = some (textc c) := by
  unfold f67_m f67_c f69_m f69_c textc
  cases hb : c.1
  · obtain ⟨a0, a1, a2, a3, a4, a5⟩ := h.bounds hb
    simp only [cond_false]
    rw [f119_eq (by omega) (by omega), f121_eq (x := c.2.2) (by omega) (by omega), f121_eq (x := c.2.1) (by omega) (by omega), f120_eq (x := c.2.2) (by omega) (by omega), f120_eq (x := c.2.1) (by omega) (by omega)]
    have s1 := itoaB_size (x := c.2.2) (by omega) (by omega)
    have s2 := itoaB_size (x := c.2.1) (by omega) (by omega)
    have s3 : (str [32, 109, 111, 100, 32]).size = 5 := rfl
    by_cases h0 : c.2.1 = 0
    · simp only [h0, decide_true, cond_true, if_true]; exact ⟨rfl, rfl⟩
    · by_cases h1 : c.2.1 = 1
      · have : ¬ (1 : Int) = 0 := by decide
        simp only [h1, this, decide_true, decide_false, cond_true, cond_false, if_true, if_false]; exact ⟨trivial, trivial⟩
      · have b1 : decide ((itoaB c.2.2).size + (str [32, 109, 111, 100, 32]).size ≤ 9223372036854775807) = true := decide_eq_true (by rw [s3]; omega)
        have b2 : decide ((itoaB c.2.2 ++ str [32, 109, 111, 100, 32]).size + (itoaB c.2.1).size ≤ 9223372036854775807) = true := decide_eq_true (by rw [ByteArray.size_append, s3]; omega)
        simp only [h0, h1, decide_false, cond_false, if_false, Option.bind_some, b1, b2, ask_true]
        exact ⟨trivial, trivial⟩
  · simp
end Go.U
end
section
set_option maxRecDepth 20000
namespace Go.U
open Go
theorem loop_run {T E : Type} {step : T → Option (T ⊕ E)} {n : Nat} (s : Nat → T) (x : E) (hn : n < 18446744073709551616) (μ : T → Nat) (hμ : ∀ i, i ≤ n → μ (s i) = n - i) (hs : ∀ i, i < n → step (s i) = some (.inl (s (i + 1)))) (he : step (s n) = some (.inr x)) : loopAll step (s 0) = some x := by
  obtain ⟨e, h1, h2⟩ := loopAll_of (fun t => ∃ i, i ≤ n ∧ t = s i) μ (fun e => e = x) ⟨0, Nat.zero_le _, rfl⟩ (by rw [hμ 0 (Nat.zero_le _)]; omega) (fun t ⟨i, hi, ht⟩ => by
    subst ht
    by_cases h : i < n
    · exact .inl ⟨_, hs i h, ⟨i + 1, h, rfl⟩, by rw [hμ _ h, hμ _ hi]; omega⟩
    · have : i = n := by omega
      subst this
      exact .inr ⟨_, he, rfl⟩)
  rw [h1, h2]
theorem textc_size {c : TCongr} (h : CR c) : (textc c).size ≤ 47 := by
  unfold textc
  cases hb : c.1
  · obtain ⟨a0, a1, a2, a3, a4, a5⟩ := h.bounds hb
    have s1 := itoaB_size (x := c.2.2) (by omega) (by omega)
    have s2 := itoaB_size (x := c.2.1) (by omega) (by omega)
    have s3 : (str [32, 109, 111, 100, 32]).size = 5 := rfl
    have s4 : (str [97, 108, 108]).size = 3 := rfl
    simp only [cond_false]
    split
    · omega
    · split
      · omega
      · rw [ByteArray.size_append, ByteArray.size_append]; omega
  · exact Nat.le_of_ble_eq_true rfl
def lineT (w:ByteArray) (nm:Nat→ByteArray) (l:List TCongr) (i:Nat):ByteArray:=((nm i++w)++textc (gx l i dCongr))++str [10]
def accT (w:ByteArray) (nm:Nat→ByteArray) (l:List TCongr) (e:ByteArray):Nat→ByteArray
 |0=>e
 |i+1=>accT w nm l e i++lineT w nm l i
structure Told30 (w:ByteArray) (nm:Nat→ByteArray) (l:List TCongr):Prop where
 n:l.length≤1048576
 w:w.size≤6
 nm:∀ i,i<l.length→(nm i).size≤1048576
 c:∀ i,i<l.length→CR (gx l i dCongr)
theorem nl_size:(str [10]).size=1:=rfl
theorem Told30.line {w:ByteArray} {nm:Nat→ByteArray} {l:List TCongr} (h:Told30 w nm l) {i:Nat} (hi:i<l.length):(lineT w nm l i).size≤1048630:=by
 have h1:=h.nm i hi
 have h2:=textc_size (h.c i hi)
 have h3:=h.w
 unfold lineT
 rw [ByteArray.size_append,ByteArray.size_append,ByteArray.size_append,nl_size];omega
theorem Told30.acc {w:ByteArray} {nm:Nat→ByteArray} {l:List TCongr} (h:Told30 w nm l) (e:ByteArray):∀ i,i≤l.length→(accT w nm l e i).size≤e.size+i * 1048630
 |0,_=>by simp [accT]
 |i+1,hi=>by
  have h1:=h.acc e i (by omega)
  have h2:=h.line (i:=i) (by omega)
  unfold accT
  rw [ByteArray.size_append,Nat.succ_mul];omega
theorem Told30.accn {w:ByteArray} {nm:Nat→ByteArray} {l:List TCongr} (h:Told30 w nm l) (e:ByteArray) {i:Nat} (hi:i≤l.length):(accT w nm l e i).size≤e.size+1099568250880:=by
 have h1:=h.acc e i hi
 have h2:=h.n
 have:i * 1048630≤1048576 * 1048630:=Nat.mul_le_mul_right _ (by omega)
 omega
theorem accT_assoc {w:ByteArray} {nm:Nat→ByteArray} {l:List TCongr} {e:ByteArray} {i:Nat}:(((accT w nm l e i++nm i)++w)++textc (gx l i dCongr))++str [10]=accT w nm l e (i+1):=by
 show _=accT w nm l e i++(((nm i++w)++textc (gx l i dCongr))++str [10])
 simp only [ByteArray.append_assoc]
theorem ask_le {α:Type} {a b:Nat} (h:a≤b) (x:Option α):ask (decide (a≤b)) x=x:=by rw [decide_eq_true h,ask_true]
theorem f30l5_eq {g : TGraph} {s : TMods} {l : List TCongr} (hl : l.length ≤ (scs g).length) (h : Told30 (str [32, 105, 115, 32]) (fun i => (gx (scs g) i dScalar).1) l) {e : ByteArray} (he : e.size ≤ 17592186044416) :
    loopAll (f30_l5.m (l, nt l.length, g, s)) (0, e) = some (accT (str [32, 105, 115, 32]) (fun i => (gx (scs g) i dScalar).1) l e l.length) := by
  have hn := h.n
  refine loop_run (n := l.length) (fun i => ((i : Int), accT (str [32, 105, 115, 32]) (fun i => (gx (scs g) i dScalar).1) l e i)) _ (by omega) (fun t => l.length - t.1.toNat) (fun i hi => by simp) (fun i hi => ?_) ?_
  · have h' : (i : Int) < (l.length : Int) := by omega
    have a1 := h.nm i hi
    have a2 := textc_size (h.c i hi)
    have a3 := h.w
    have a4 := h.line hi
    have a5 := h.accn e (i := i) (by omega)
    have b1 : (gx g.2.2.2.2.2.1 i dScalar).1.size ≤ 1048576 := a1
    simp only [LD.m, f30_l5, nt, h', decide_true, cond_true, inR hi, inR (Nat.lt_of_lt_of_le hi hl), ask_true, Int.toNat_natCast]
    rw [ask_le (by omega), (f67_eq (h.c i hi)).1]
    simp only [Option.bind_some]
    rw [ask_le (by rw [ByteArray.size_append]; omega), ask_le (by rw [ByteArray.size_append, ByteArray.size_append, nl_size]; omega)]
    show (f66_m (lineT (str [32, 105, 115, 32]) (fun i => (gx (scs g) i dScalar).1) l i, _)).bind _ = _
    unfold f66_m
    rw [ask_le (by simp only; omega)]
    simp only [Option.bind_some]
    rw [wi64_of (by omega) (by omega)]
    rfl
  · simp only [LD.m, f30_l5, nt, Int.lt_irrefl, decide_false, cond_false]
theorem f30l10_eq {g : TGraph} {l : List TCongr} (hl : l.length ≤ (inps g).length) (h : Told30 (str [91, 93, 32, 105, 115, 32]) (fun i => (gx (inps g) i dArray).1) l) {e : ByteArray} (he : e.size ≤ 17592186044416) :
    loopAll (f30_l10.m (l, nt l.length, g)) (0, e) = some (accT (str [91, 93, 32, 105, 115, 32]) (fun i => (gx (inps g) i dArray).1) l e l.length) := by
  have hn := h.n
  refine loop_run (n := l.length) (fun i => ((i : Int), accT (str [91, 93, 32, 105, 115, 32]) (fun i => (gx (inps g) i dArray).1) l e i)) _ (by omega) (fun t => l.length - t.1.toNat) (fun i hi => by simp) (fun i hi => ?_) ?_
  · have h' : (i : Int) < (l.length : Int) := by omega
    have a1 := h.nm i hi
    have a2 := textc_size (h.c i hi)
    have a3 := h.w
    have a4 := h.line hi
    have a5 := h.accn e (i := i) (by omega)
    have b1 : (gx g.2.2.2.2.2.2.1 i dArray).1.size ≤ 1048576 := a1
    simp only [LD.m, f30_l10, nt, h', decide_true, cond_true, inR hi, inR (Nat.lt_of_lt_of_le hi hl), ask_true, Int.toNat_natCast]
    rw [ask_le (by omega), (f67_eq (h.c i hi)).1]
    simp only [Option.bind_some]
    rw [ask_le (by rw [ByteArray.size_append]; omega), ask_le (by rw [ByteArray.size_append, ByteArray.size_append, nl_size]; omega)]
    show (f66_m (lineT (str [91, 93, 32, 105, 115, 32]) (fun i => (gx (inps g) i dArray).1) l i, _)).bind _ = _
    unfold f66_m
    rw [ask_le (by simp only; omega)]
    simp only [Option.bind_some]
    rw [wi64_of (by omega) (by omega)]
    rfl
  · simp only [LD.m, f30_l10, nt, Int.lt_irrefl, decide_false, cond_false]
theorem f31l5_eq {g : TGraph} {s : TMods} (hl : s.2.1.length ≤ (scs g).length) (h : Told30 (str [32, 105, 115, 32]) (fun i => (gx (scs g) i dScalar).1) s.2.1) {e : ByteArray} (he : e.size ≤ 17592186044416) :
    loopAll (f31_l5.m (g, s)) (e, 0) = some (accT (str [32, 105, 115, 32]) (fun i => (gx (scs g) i dScalar).1) s.2.1 e s.2.1.length) := by
  have hn := h.n
  refine loop_run (n := s.2.1.length) (fun i => (accT (str [32, 105, 115, 32]) (fun i => (gx (scs g) i dScalar).1) s.2.1 e i, (i : Int))) _ (by omega) (fun t => s.2.1.length - t.2.toNat) (fun i hi => by simp) (fun i hi => ?_) ?_
  · have h' : (i : Int) < (s.2.1.length : Int) := by omega
    have a1 := h.nm i hi
    have a2 := textc_size (h.c i hi)
    have a3 := h.w
    have a5 := h.accn e (i := i) (by omega)
    have b1 : (gx g.2.2.2.2.2.1 i dScalar).1.size ≤ 1048576 := a1
    simp only [LD.m, f31_l5, nt, h', decide_true, cond_true, inR hi, inR (Nat.lt_of_lt_of_le hi hl), ask_true, Int.toNat_natCast]
    rw [ask_le (by omega), ask_le (by rw [ByteArray.size_append]; omega), (f67_eq (h.c i hi)).2]
    simp only [Option.bind_some]
    rw [ask_le (by simp only [ByteArray.size_append]; omega), ask_le (by simp only [ByteArray.size_append, nl_size]; omega)]
    rw [wi64_of (by omega) (by omega), accT_assoc (nm := fun i => (gx (scs g) i dScalar).1)]
    rfl
  · simp only [LD.m, f31_l5, nt, Int.lt_irrefl, decide_false, cond_false]
theorem f31l9_eq {g : TGraph} {s : TMods} (hl : s.2.2.length ≤ (inps g).length) (h : Told30 (str [91, 93, 32, 105, 115, 32]) (fun i => (gx (inps g) i dArray).1) s.2.2) {e : ByteArray} (he : e.size ≤ 17592186044416) :
    loopAll (f31_l9.m (g, s)) (e, 0) = some (accT (str [91, 93, 32, 105, 115, 32]) (fun i => (gx (inps g) i dArray).1) s.2.2 e s.2.2.length) := by
  have hn := h.n
  refine loop_run (n := s.2.2.length) (fun i => (accT (str [91, 93, 32, 105, 115, 32]) (fun i => (gx (inps g) i dArray).1) s.2.2 e i, (i : Int))) _ (by omega) (fun t => s.2.2.length - t.2.toNat) (fun i hi => by simp) (fun i hi => ?_) ?_
  · have h' : (i : Int) < (s.2.2.length : Int) := by omega
    have a1 := h.nm i hi
    have a2 := textc_size (h.c i hi)
    have a3 := h.w
    have a5 := h.accn e (i := i) (by omega)
    have b1 : (gx g.2.2.2.2.2.2.1 i dArray).1.size ≤ 1048576 := a1
    simp only [LD.m, f31_l9, nt, h', decide_true, cond_true, inR hi, inR (Nat.lt_of_lt_of_le hi hl), ask_true, Int.toNat_natCast]
    rw [ask_le (by omega), ask_le (by rw [ByteArray.size_append]; omega), (f67_eq (h.c i hi)).2]
    simp only [Option.bind_some]
    rw [ask_le (by simp only [ByteArray.size_append]; omega), ask_le (by simp only [ByteArray.size_append, nl_size]; omega)]
    rw [wi64_of (by omega) (by omega), accT_assoc (nm := fun i => (gx (inps g) i dArray).1)]
    rfl
  · simp only [LD.m, f31_l9, nt, Int.lt_irrefl, decide_false, cond_false]
theorem f30_eq {g : TGraph} {s : TMods} (hs : s.1 = true → FitS g s) (hn : s.2.1.length ≤ 1048576 ∧ s.2.2.length ≤ 1048576) (h1 : ∀ i, i < (scs g).length → (gx (scs g) i dScalar).1.size ≤ 1048576) (h2 : ∀ i, i < (inps g).length → (gx (inps g) i dArray).1.size ≤ 1048576) :
    ∃ t, f30_m (g, s) = some t ∧ f31_m (g, s) = some t := by
  unfold f30_m f30_c f31_m f31_c
  cases hb : s.1
  · exact ⟨_, rfl, rfl⟩
  · have hF := hs hb
    have hl1 := hF.sl; have hl2 := hF.il
    have t1 : Told30 (str [32, 105, 115, 32]) (fun i => (gx (scs g) i dScalar).1) s.2.1 := ⟨hn.1, by show (4 : Nat) ≤ 6; omega, fun i hi => h1 i (by omega), hF.sc⟩
    have t2 : Told30 (str [91, 93, 32, 105, 115, 32]) (fun i => (gx (inps g) i dArray).1) s.2.2 := ⟨hn.2, Nat.le_refl 6, fun i hi => h2 i (by omega), hF.ic⟩
    have b1 := t1.accn ByteArray.empty (Nat.le_refl _)
    have e0 : ByteArray.empty.size = 0 := rfl
    have e1 : str [] = ByteArray.empty := rfl
    simp only [Bool.not_true, cond_false]
    rw [f30l5_eq (by omega) t1 (by omega), e1, f31l5_eq (by omega) t1 (by omega)]
    simp only [Option.bind_some]
    rw [f30l10_eq (by omega) t2 (by omega), f31l9_eq (by omega) t2 (by omega)]
    exact ⟨_, rfl, rfl⟩
end Go.U
end
section
set_option maxRecDepth 20000
namespace Go.U
open Go
theorem math8 (g : TGraph) (s : TMods) (v : List Int) (vs : List (List Int)) (hg : okC 1048576 cGraph g) (hs : okC 1048576 cMods s) (hv : okC 1048576 (.slice (.int .i64)) v) (hvs : okC 1048576 (.slice (.slice (.int .i64))) vs) : f8_m (g, s, v, vs) = some true := by
  have hS : 1048576 ≤ maxLen := by decide
  have hL := lens_of hS hg
  have hM := lensM_of hS hs
  obtain ⟨_, _, _, _, _, ⟨_, hn1⟩, ⟨_, hn2⟩, _⟩ := hg
  obtain ⟨_, ⟨⟨ha, _⟩, _⟩, ⟨⟨hb', _⟩, _⟩⟩ := hs
  have hV : LensV v vs := by
    obtain ⟨⟨h1, _⟩, _⟩ := hv
    obtain ⟨⟨h2, _⟩, h3⟩ := hvs
    have hb : (1048576 : Nat) ≤ 9223372036854775807 := by omega
    exact ⟨Nat.le_trans h1 hb, Nat.le_trans h2 hb, fun t ht => Nat.le_trans (h3 _ (List.mem_of_getElem? (gx_lt (d := []) ht))).1.1 hb⟩
  unfold f8_m f8_c
  obtain ⟨r1, q1, q2⟩ := f10_eq hL
  rw [q1]
  simp only [Option.bind_some]
  cases r1
  · simp only [Bool.not_false, cond_true]; rw [awake]; rfl
  · simp only [Bool.not_true, cond_false]
    obtain ⟨r3, q3, q4⟩ := f11_eq (g := g) hM
    rw [q3]
    simp only [Option.bind_some]
    cases r3
    · simp only [Bool.not_false, cond_true]; rw [awake]; rfl
    · simp only [Bool.not_true, cond_false]
      have hF := q4 rfl
      have hc : s.1 = true → (∀ j, j < s.2.1.length → CR (gx s.2.1 j dCongr)) ∧ ∀ j, j < s.2.2.length → CR (gx s.2.2 j dCongr) := fun h => ⟨(hF h).sc, (hF h).ic⟩
      rw [f28_eq hV hc, f29_eq hV hc]
      simp only [Option.bind_some, beq_self_eq_true, cond_true]
      obtain ⟨t, t1, t2⟩ := f30_eq hF ⟨ha, hb'⟩ (fun i hi => (hn1 _ (List.mem_of_getElem? (gx_lt (d := dScalar) hi))).1) (fun i hi => (hn2 _ (List.mem_of_getElem? (gx_lt (d := dArray) hi))).1)
      rw [t1, t2]
      simp only [Option.bind_some, beq_self_eq_true, cond_true]
      rw [awake]; rfl
end Go.U
end
