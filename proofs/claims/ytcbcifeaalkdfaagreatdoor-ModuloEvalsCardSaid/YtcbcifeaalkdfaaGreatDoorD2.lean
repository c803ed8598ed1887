/- What these Lean functions compute: plain arithmetic of congruences, the checks of a graph, the values of its registers. -/
import Derived.Test.YtcbcifeaalkdfaaGreatDoorC1
import Derived.Test.YtcbcifeaalkdfaaGreatDoorC6
set_option linter.unusedVariables false
set_option linter.unusedSimpArgs false
set_option linter.unusedSectionVars false
namespace Go.U
open Go
theorem wi64_of {n : Int} (h0 : -9223372036854775808 ≤ n) (h1 : n ≤ 9223372036854775807) : wi64 n = n := by
 unfold wi64; rw [IntKind.wrap_i64]; omega
theorem wu64_eq (n : Int) : wu64 n = n % 18446744073709551616 := by
 unfold wu64 IntKind.wrap; simp [IntKind.bits, IntKind.signed]
theorem wu64_of {n : Int} (h0 : 0 ≤ n) (h1 : n < 18446744073709551616) : wu64 n = n := by
 rw [wu64_eq]; omega
theorem wu64_neg {n : Int} (h0 : n < 0) (h1 : -9223372036854775808 ≤ n) : wu64 (0 - wu64 n) = -n := by
 rw [wu64_eq, wu64_eq]; omega
theorem loopM_of {T E : Type} {step : T → Option (T ⊕ E)} (I : T → Prop) (μ : T → Nat) (Q : E → Prop)
    (hs : ∀ t, I t → (∃ t', step t = some (.inl t') ∧ I t' ∧ μ t' < μ t) ∨ ∃ e, step t = some (.inr e) ∧ Q e) : ∀ (n : Nat) (t : T), I t → μ t < n → ∃ e, loopM step n t = some e ∧ Q e
  | 0, t, _, h => absurd h (Nat.not_lt_zero _)
  | n + 1, t, hI, h => by
    rcases hs t hI with ⟨t', h1, h2, h3⟩ | ⟨e, h1, h2⟩
    · obtain ⟨e, h4, h5⟩ := loopM_of I μ Q hs n t' h2 (by omega)
      exact ⟨e, by simp only [loopM, h1, Option.bind_some, h4], h5⟩
    · exact ⟨e, by simp only [loopM, h1, Option.bind_some], h2⟩
theorem loopAll_of {T E : Type} {step : T → Option (T ⊕ E)} {t : T} (I : T → Prop) (μ : T → Nat) (Q : E → Prop) (hI : I t) (hμ : μ t < 18446744073709551616)
  (hs : ∀ t, I t → (∃ t', step t = some (.inl t') ∧ I t' ∧ μ t' < μ t) ∨ ∃ e, step t = some (.inr e) ∧ Q e) : ∃ e, loopAll step t = some e ∧ Q e :=
 loopM_of I μ Q hs _ t hI hμ
def lo31 (m x : Int) : Int := -2147483648 + (x + 2147483648) % m
def nf (m x : Int) : TCongr :=
 if m = 0 then (if -2147483648 ≤ x ∧ x ≤ 2147483647 then (false, (0, x)) else (true, (0, 0)))
 else if 2147483647 < lo31 m x then (true, (0, 0))
 else if 2147483647 < lo31 m x + m then (false, (0, lo31 m x))
 else (false, (m, x % m))
theorem nf_emod {m x y : Int} (h : x % m = y % m) (hm : m ≠ 0) : nf m x = nf m y := by
 have e : (x + 2147483648) % m = (y + 2147483648) % m := by rw [Int.add_emod, h, ← Int.add_emod]
 unfold nf lo31
 rw [e, h, if_neg hm, if_neg hm]
theorem nf_self {m x : Int} (hm : m ≠ 0) : nf m (x % m) = nf m x := nf_emod (Int.emod_emod_of_dvd x (Int.dvd_refl m)) hm
theorem lo31_eq {m x : Int} (hm : 0 < m) : ∃ k : Int, lo31 m x = x % m - m * k ∧ -2147483648 ≤ lo31 m x ∧ lo31 m x < -2147483648 + m := by
 have h1 := Int.emod_nonneg (x + 2147483648) (by omega : m ≠ 0)
 have h2 := Int.emod_lt_of_pos (x + 2147483648) hm
 refine ⟨(x + 2147483648) / m - x / m, ?_, by unfold lo31; omega, by unfold lo31; omega⟩
 unfold lo31
 have e1 := Int.emod_add_mul_ediv (x + 2147483648) m
 have e2 := Int.emod_add_mul_ediv x m
 rw [Int.mul_sub]
 omega
def CR (c : TCongr) : Prop := c = (true, (0, 0)) ∨ (c.1 = false ∧ 0 ≤ c.2.1 ∧ nf c.2.1 c.2.2 = c)
theorem nf_cr {m x : Int} (hm : 0 ≤ m) : CR (nf m x) := by
  by_cases h0 : m = 0
  · subst h0
    simp only [nf, if_true]
    split
    · rename_i h; exact .inr ⟨rfl, Int.le_refl _, by simp only [nf, if_true]; rw [if_pos h]⟩
    · exact .inl rfl
  · obtain ⟨k, h1, h2, h3⟩ := lo31_eq (m := m) (x := x) (by omega)
    unfold nf
    rw [if_neg h0]
    split
    · exact .inl rfl
    · rename_i g1
      split
      · rename_i g2
        exact .inr ⟨rfl, Int.le_refl _, by simp only [nf, if_true]; rw [if_pos ⟨h2, by omega⟩]⟩
      · rename_i g2
        refine .inr ⟨rfl, hm, ?_⟩
        simp only
        rw [nf_self h0]
        simp only [nf, if_neg h0, if_neg g1, if_neg g2]
theorem CR.bounds {c : TCongr} (h : CR c) (h1 : c.1 = false) : 0 ≤ c.2.1 ∧ c.2.1 < 4294967296 ∧ -2147483648 ≤ c.2.2 ∧ c.2.2 < 4294967296 ∧ nf c.2.1 c.2.2 = c ∧ (c.2.1 = 0 → c.2.2 ≤ 2147483647) := by
  rcases h with rfl | ⟨_, h2, h3⟩
  · simp at h1
  · obtain ⟨b, m, x⟩ := c
    simp only at h1 h2 h3 ⊢
    subst h1
    have h3' := h3
    unfold nf at h3
    split at h3
    · rename_i h0; subst h0
      split at h3
      · rename_i h; exact ⟨h2, by omega, h.1, by omega, h3', fun _ => h.2⟩
      · simp at h3
    · rename_i h0
      obtain ⟨k, g1, g2, g3⟩ := lo31_eq (m := m) (x := x) (by omega)
      have hpos : 0 < m := by omega
      have k1 := Int.emod_nonneg x h0
      have k2 := Int.emod_lt_of_pos x hpos
      split at h3
      · simp at h3
      · split at h3
        · simp only [Prod.mk.injEq, true_and] at h3; omega
        · simp only [Prod.mk.injEq, true_and] at h3
          refine ⟨h2, by omega, by omega, by omega, h3', fun h => absurd h h0⟩
end Go.U
section
set_option maxRecDepth 20000
namespace Go.U
open Go
theorem f111_eq {x : Int} (h0 : -9223372036854775808 ≤ x) (h1 : x ≤ 9223372036854775807) : f111_m x = some (x.natAbs : Int) := by
  unfold f111_m f111_c
  by_cases h : x < 0
  · simp only [h, decide_true, cond_true]
    rw [wi64_of (n := x + 1) (by omega) (by omega), wi64_of (by omega) (by omega), wu64_of (n := 0 - (x + 1)) (by omega) (by omega), wu64_of (by omega) (by omega)]
    congr 1; omega
  · simp only [h, decide_false, cond_false]
    rw [wu64_of (by omega) (by omega)]
    congr 1; omega
theorem f129_eq {x : Int} (h0 : -4611686018427387904 ≤ x) (h1 : x ≤ 4611686018427387904) : f129_m x = some (x.natAbs : Int) := by
  unfold f129_m f129_c
  by_cases h : x < 0
  · simp only [h, decide_true, cond_true]
    rw [wu64_neg h (by omega)]
    congr 1; omega
  · simp only [h, decide_false, cond_false]
    rw [wu64_of (by omega) (by omega)]
    congr 1; omega
theorem gcd_step {t : Int × Int} (h0 : 0 ≤ t.1) (h1 : 0 ≤ t.2) (h2 : t.2 ≠ 0) : 0 ≤ Int.tmod t.1 t.2 ∧ Int.tmod t.1 t.2 < t.2 ∧ Nat.gcd t.2.toNat (Int.tmod t.1 t.2).toNat = Nat.gcd t.1.toNat t.2.toNat := by
 obtain ⟨a, b⟩ := t
 simp only at *
 obtain ⟨a, rfl⟩ := Int.eq_ofNat_of_zero_le h0
 obtain ⟨b, rfl⟩ := Int.eq_ofNat_of_zero_le h1
 have e : Int.tmod (a : Int) (b : Int) = ((a % b : Nat) : Int) := rfl
 rw [e]
 have hb : 0 < b := by omega
 have := Nat.mod_lt a hb
 refine ⟨by omega, by omega, ?_⟩
 simp only [Int.toNat_natCast]
 rw [Nat.gcd_comm, ← Nat.gcd_rec, Nat.gcd_comm]
theorem gcdl_eq {L : LD Unit (Int × Int) Int} (hL : ∀ t, L.m () t = cond (!(decide (t.2 = (0 : Int)))) (cond (decide (t.2 = (0 : Int))) none (some (.inl (t.2, Int.tmod t.1 t.2)))) (some (.inr t.1))) (a b : Nat) (hb : b < 18446744073709551616) :
    loopAll (L.m ()) ((a : Int), (b : Int)) = some (Nat.gcd a b : Int) := by
  obtain ⟨e, h1, h2⟩ := loopAll_of (step := L.m ()) (t := ((a : Int), (b : Int))) (fun t => 0 ≤ t.1 ∧ 0 ≤ t.2 ∧ Nat.gcd t.1.toNat t.2.toNat = Nat.gcd a b) (fun t => t.2.toNat) (fun e => e = (Nat.gcd a b : Int)) ⟨by simp, by simp, by simp⟩ (by simpa using hb) (fun t ⟨h0, h1, h2⟩ => by
    rw [hL]
    by_cases hz : t.2 = 0
    · refine .inr ⟨t.1, by simp [hz], ?_⟩
      rw [hz] at h2; simp at h2; omega
    · obtain ⟨g1, g2, g3⟩ := gcd_step h0 h1 hz
      exact .inl ⟨(t.2, Int.tmod t.1 t.2), by simp [hz], ⟨h1, g1, g3.trans h2⟩, by simp only; omega⟩)
  rw [h1, h2]
theorem f110_eq (a b : Nat) (hb : b < 18446744073709551616) : f110_m ((a : Int), (b : Int)) = some (Nat.gcd a b : Int) := by
 unfold f110_m f110_c
 rw [gcdl_eq (fun _ => rfl) a b hb]; rfl
theorem f128_eq (a b : Nat) (hb : b < 18446744073709551616) : f128_m ((a : Int), (b : Int)) = some (Nat.gcd a b : Int) := by
 unfold f128_m f128_c
 rw [gcdl_eq (fun _ => rfl) a b hb]; rfl
theorem tmod_nat {x m : Int} (h0 : 0 ≤ x) : Int.tmod x m = x % m := Int.tmod_eq_emod_of_nonneg h0
theorem f117_eq {x m : Int} (hx0 : -4611686018427387904 ≤ x) (hx1 : x ≤ 4611686018427387904) (hm : 0 < m) (hm1 : m < 18446744073709551616) : f117_m (x, m) = some (x % m) := by
  unfold f117_m f117_c
  simp only
  rw [f129_eq hx0 hx1]
  simp only [Option.bind_some]
  have e0 : m ≠ 0 := by omega
  rw [tmod_nat (by omega)]
  have k1 := Int.emod_nonneg (x.natAbs : Int) e0
  have k2 := Int.emod_lt_of_pos (x.natAbs : Int) hm
  have k3 := Int.emod_nonneg x e0
  have k4 := Int.emod_lt_of_pos x hm
  by_cases h : x < 0
  · have e1 : (x.natAbs : Int) = -x := by omega
    rw [e1] at k1 k2 ⊢
    have k5 := Int.emod_add_mul_ediv (-x) m
    have k6 := Int.emod_add_mul_ediv x m
    by_cases hr : 0 < -x % m
    · simp only [e0, h, hr, decide_true, decide_false, cond_true, cond_false]
      rw [wu64_of (by omega) (by omega)]
      congr 1
      have : m - -x % m = (x + m * (-x / m + 1)) := by rw [Int.mul_add]; omega
      rw [← Int.emod_eq_of_lt (a := m - -x % m) (b := m) (by omega) (by omega), this, Int.add_mul_emod_self_left]
    · simp only [e0, h, hr, decide_true, decide_false, cond_true, cond_false]
      congr 1
      have h0 : -x % m = 0 := by omega
      have : m ∣ x := (Int.dvd_neg).1 (Int.dvd_of_emod_eq_zero h0)
      rw [Int.emod_eq_zero_of_dvd this]; exact h0
  · have e1 : (x.natAbs : Int) = x := by omega
    rw [e1]
    simp only [e0, h, decide_true, decide_false, cond_true, cond_false]
theorem f132_eq {m r : Int} (hm : 0 < m) (hm1 : m < 18446744073709551616) (h0 : 0 ≤ r) (h1 : r < m) : f132_m (m, r) = some (nf m r) := by
  unfold f132_m f132_c
  simp only
  rw [f117_eq (by omega) (by omega) hm hm1]
  simp only [Option.bind_some]
  have e0 : m ≠ 0 := by omega
  have k3 := Int.emod_nonneg (-2147483648) e0
  have k4 := Int.emod_lt_of_pos (-2147483648) hm
  have hr : r % m = r := Int.emod_eq_of_lt h0 h1
  have k5 := Int.emod_add_mul_ediv (-2147483648) m
  have g1 := Int.emod_nonneg (r + 2147483648) e0
  have g2 := Int.emod_lt_of_pos (r + 2147483648) hm
  generalize hq : (-2147483648) % m = q at *
  have fin : ∀ off, off = (r + 2147483648) % m → (cond (decide ((4294967295 : Int) < off)) (some ((true, (0, 0)) : TCongr)) (cond (decide ((wu64 (wi64 ((2147483647 : Int) - (wi64 ((-2147483648 : Int) + (wi64 off)))))) < m))
      (some (false, (0, (wi64 ((-2147483648 : Int) + (wi64 off)))))) (some (false, ((wi64 m), (wi64 r)))))) = some (nf m r) := fun off ho => by
    subst ho
    unfold nf lo31
    rw [if_neg e0, hr]
    by_cases c1 : 4294967295 < (r + 2147483648) % m
    · rw [if_pos (by omega)]; simp only [c1, decide_true, cond_true]
    · rw [if_neg (by omega)]
      simp only [c1, decide_false, cond_false]
      rw [wi64_of (n := (r + 2147483648) % m) (by omega) (by omega), wi64_of (n := -2147483648 + (r + 2147483648) % m) (by omega) (by omega), wi64_of (n := 2147483647 - (-2147483648 + (r + 2147483648) % m)) (by omega) (by omega), wu64_of (by omega) (by omega)]
      by_cases c2 : 2147483647 < -2147483648 + (r + 2147483648) % m + m
      · rw [if_pos c2]
        have : 2147483647 - (-2147483648 + (r + 2147483648) % m) < m := by omega
        simp only [this, decide_true, cond_true]
      · rw [if_neg c2]
        have : ¬ 2147483647 - (-2147483648 + (r + 2147483648) % m) < m := by omega
        simp only [this, decide_false, cond_false]
        rw [wi64_of (n := m) (by omega) (by omega), wi64_of (n := r) (by omega) (by omega)]
  have hoff : (r + 2147483648) % m = (r - q) % m := by
    have : r + 2147483648 = (r - q) + m * (- (-2147483648 / m)) := by rw [Int.mul_neg]; omega
    rw [this, Int.add_mul_emod_self_left]
  by_cases hlt : r < q
  · simp only [hlt, decide_true, cond_true]
    rw [wu64_of (n := m - q) (by omega) (by omega), wu64_of (n := r + (m - q)) (by omega) (by omega)]
    refine fin _ ?_
    rw [hoff]
    have : r + (m - q) = (r - q) + m * 1 := by omega
    rw [← Int.emod_eq_of_lt (a := r + (m - q)) (b := m) (by omega) (by omega), this, Int.add_mul_emod_self_left]
  · simp only [hlt, decide_false, cond_false]
    rw [wu64_of (n := r - q) (by omega) (by omega)]
    refine fin _ ?_
    rw [hoff, Int.emod_eq_of_lt (by omega) (by omega)]
theorem f127_eq (x : Int) : f127_m x = some ((nf 0 x).1, (nf 0 x).2.2) ∧ (nf 0 x).2.1 = 0 := by
  unfold f127_m f127_c nf
  by_cases h1 : x < -2147483648
  · have : ¬ (-2147483648 ≤ x ∧ x ≤ 2147483647) := by omega
    simp [h1, this]
  · by_cases h2 : 2147483647 < x
    · have : ¬ (-2147483648 ≤ x ∧ x ≤ 2147483647) := by omega
      simp [h1, h2, this]
    · have : -2147483648 ≤ x ∧ x ≤ 2147483647 := by omega
      simp [h1, h2, this]
theorem f127_to (x : Int) : ((f127_m x).bind fun r => some ((r.1, (0, r.2)) : TCongr)) = some (nf 0 x) := by
 obtain ⟨h1, h2⟩ := f127_eq x
 rw [h1, Option.bind_some]
 generalize nf 0 x = c at h2
 obtain ⟨b, m, r⟩ := c
 simp only at h2; subst h2; rfl
theorem f98_eq {m x : Int} (hm : 0 ≤ m) (hm1 : m < 9223372036854775808) (hx0 : -4611686018427387904 ≤ x) (hx1 : x ≤ 4611686018427387904) : f98_m (m, x) = some (nf m x) := by
  unfold f98_m f98_c
  simp only
  by_cases h : m = 0
  · subst h; simp only [decide_true, cond_true]; exact f127_to x
  · simp only [h, decide_false, cond_false]
    rw [f117_eq hx0 hx1 (by omega) (by omega)]
    simp only [Option.bind_some]
    rw [f132_eq (by omega) (by omega) (Int.emod_nonneg _ h) (Int.emod_lt_of_pos _ (by omega))]
    rw [nf_self h]; rfl
theorem f122_eq {m x : Int} (hm0 : -4611686018427387904 ≤ m) (hm1 : m ≤ 4611686018427387904) (hx0 : -4611686018427387904 ≤ x) (hx1 : x ≤ 4611686018427387904) : f122_m (m, x) = some (nf (m.natAbs : Int) x) := by
  unfold f122_m f122_c
  simp only
  by_cases h : m = 0
  · subst h; simp only [decide_true, cond_true]; exact f127_to x
  · simp only [h, decide_false, cond_false]
    rw [f129_eq hm0 hm1]
    simp only [Option.bind_some]
    rw [f117_eq hx0 hx1 (by omega) (by omega)]
    simp only [Option.bind_some]
    rw [f132_eq (by omega) (by omega) (Int.emod_nonneg _ (by omega)) (Int.emod_lt_of_pos _ (by omega))]
    rw [nf_self (by omega)]; rfl
end Go.U
end
section
set_option maxRecDepth 20000
namespace Go.U
open Go
theorem r2_eq (p) : f123_r2.m p = cond p.1.2 (some (decide (p.1.1 ≤ (2147483648 : Int)))) (some false) := rfl
theorem r4_eq (p) : f123_r4.m p = cond (!p.1.2) (some (decide (p.1.1 ≤ (2147483647 : Int)))) (some false) := rfl
theorem r8_eq (p) : f123_r8.m p = cond p.2.2.1 (some (!(decide (p.2.1 = (0 : Int))))) (some false) := rfl
theorem c9_eq (p) : f123_c9.m p = cond p.2.2.1 (some (wu64 (p.1 - p.2.1))) (some p.2.1) := rfl
theorem c12_eq (p) : f123_c12.m p = cond p.2.2.1 (some [wi64 p.2.1]) (some []) := rfl
theorem c14_eq (p) : f123_c14.m p = cond p.2.2.1 (ask (decide ((p.2.2.2.2.2.2.length + 1) * 8 ≤ 70368744177664) && decide ((p.2.2.2.2.2.2.length + 1) < 9223372036854775808)) (some (p.2.2.2.2.2.2 ++ [wi64 (0 - wi64 (wu64 (p.1 - p.2.1)))]))) (some p.2.2.2.2.2.2) := rfl
theorem c16_eq (p) : f123_c16.m p = cond p.2.2.1 (ask (decide ((p.2.2.2.2.2.2.length + 1) * 8 ≤ 70368744177664) && decide ((p.2.2.2.2.2.2.length + 1) < 9223372036854775808)) (some (p.2.2.2.2.2.2 ++ [0]))) (some p.2.2.2.2.2.2) := rfl
theorem c18_eq (p) : f123_c18.m p = cond p.2.2.1 (ask (decide ((p.2.2.2.2.2.2.length + 1) * 8 ≤ 70368744177664) && decide ((p.2.2.2.2.2.2.length + 1) < 9223372036854775808)) (some (p.2.2.2.2.2.2 ++ [0]))) (some p.2.2.2.2.2.2) := rfl
theorem r15_eq (p) : f123_r15.m p = cond (decide ((nt (List.length p.2.2.2.2.2)) = (1 : Int)))
 (ask (V.inRange 0 (List.length p.2.2.2.2.2)) (cond (decide ((0 : Int) ≤ (gx p.2.2.2.2.2 0 (0 : Int))))
 (ask (V.inRange 0 (List.length p.2.2.2.2.2)) (some ((decide (p.1 ≤ (wu64 ((2147483647 : Int) - (wu64 (gx p.2.2.2.2.2 0 (0 : Int))))))))))
 (some (false))))
 (some (false)) := rfl
theorem r17_eq (p) : f123_r17.m p = cond (decide ((nt (List.length p.2.2.2.2.2)) = (1 : Int)))
 (ask (V.inRange 0 (List.length p.2.2.2.2.2)) (cond (decide ((gx p.2.2.2.2.2 0 (0 : Int)) < (0 : Int)))
 (ask (V.inRange 0 (List.length p.2.2.2.2.2)) ((f111_m (gx p.2.2.2.2.2 0 (0 : Int))).bind fun r1 =>
 some ((decide (p.1 ≤ (wu64 ((2147483648 : Int) - r1)))))))
 (some (false))))
 (some (false)) := rfl
theorem nf_found {m s : Int} (hm : 0 < m) (h0 : 0 ≤ s) (h1 : s < m) :
    (¬ s ≤ 2147483647 → ¬ m - s ≤ 2147483648 → nf m s = (true, (0, 0))) ∧
    (s ≤ 2147483647 → ¬ m - s ≤ 2147483648 → m ≤ 2147483647 - s → nf m s = (false, (m, s))) ∧
    (s ≤ 2147483647 → ¬ m - s ≤ 2147483648 → ¬ m ≤ 2147483647 - s → nf m s = (false, (0, s))) ∧
    (¬ s ≤ 2147483647 → m - s ≤ 2147483648 → m ≤ 2147483648 - (m - s) → nf m s = (false, (m, s))) ∧
    (¬ s ≤ 2147483647 → m - s ≤ 2147483648 → ¬ m ≤ 2147483648 - (m - s) → nf m s = (false, (0, s - m))) ∧
    (s ≤ 2147483647 → m - s ≤ 2147483648 → nf m s = (false, (m, s))) := by
  obtain ⟨k, hk, hl, hu⟩ := lo31_eq (m := m) (x := s) hm
  have e0 : m ≠ 0 := by omega
  have hs : s % m = s := Int.emod_eq_of_lt h0 h1
  rw [hs] at hk
  have hk0 : k < 0 → m * k ≤ -m := fun h => by
    have := Int.mul_le_mul_of_nonneg_left (show k ≤ -1 by omega) (show 0 ≤ m by omega); omega
  have hk1 : 1 ≤ k → m ≤ m * k := fun h => by
    have := Int.mul_le_mul_of_nonneg_left h (show 0 ≤ m by omega); omega
  have hk2 : 2 ≤ k → 2 * m ≤ m * k := fun h => by
    have := Int.mul_le_mul_of_nonneg_left h (show 0 ≤ m by omega); omega
  have hkz : k = 0 → m * k = 0 := fun h => by rw [h]; exact Int.mul_zero m
  have hko : k = 1 → m * k = m := fun h => by rw [h]; exact Int.mul_one m
  have hc : k < 0 ∨ k = 0 ∨ k = 1 ∨ 2 ≤ k := by omega
  have hcase : (k = 0 ∧ m * k = 0) ∨ (k = 1 ∧ m * k = m) ∨ (2 ≤ k ∧ 2 * m ≤ m * k) ∨ (k < 0 ∧ m * k ≤ -m) := by
    rcases hc with h | h | h | h
    · exact .inr (.inr (.inr ⟨h, hk0 h⟩))
    · exact .inl ⟨h, hkz h⟩
    · exact .inr (.inl ⟨h, hko h⟩)
    · exact .inr (.inr (.inl ⟨h, hk2 h⟩))
  generalize hmk : m * k = mk at *
  unfold nf
  rw [if_neg e0, hs, hk]
  refine ⟨fun a b => ?_, fun a b c => ?_, fun a b c => ?_, fun a b c => ?_, fun a b c => ?_, fun a b => ?_⟩
  · rw [if_pos (by omega)]
  · rw [if_neg (by omega), if_neg (by omega)]
  · rw [if_neg (by omega), if_pos (by omega)]
    have : s - mk = s := by omega
    rw [this]
  · rw [if_neg (by omega), if_neg (by omega)]
  · rw [if_neg (by omega), if_pos (by omega)]
    have : s - mk = s - m := by omega
    rw [this]
  · rw [if_neg (by omega), if_neg (by omega)]
theorem f123_eq {m r : Int} {neg : Bool} (hm : 0 ≤ m) (hm1 : m < 18446744073709551616) (hr : 0 ≤ r) (hr1 : r < 18446744073709551616) : f123_m (m, r, neg) = some (nf m (cond neg (-r) r)) := by
  unfold f123_m f123_c
  simp only [r2_eq, r4_eq, r8_eq, c9_eq, c12_eq, c14_eq, r15_eq, c16_eq, r17_eq, c18_eq]
  by_cases h0 : m = 0
  · subst h0
    simp only [decide_true, cond_true]
    cases neg
    · simp only [cond_false, cond_true, Option.bind_some, Bool.not_false]
      by_cases hc : r ≤ 2147483647
      · have e : nf 0 r = (false, (0, r)) := by unfold nf; rw [if_pos rfl, if_pos ⟨by omega, hc⟩]
        rw [e, wi64_of (by omega) (by omega)]
        simp only [hc, decide_true, cond_true]
      · have e : nf 0 r = (true, (0, 0)) := by unfold nf; rw [if_pos rfl, if_neg (by omega)]
        rw [e]
        simp only [hc, decide_false, cond_false]
    · simp only [cond_false, cond_true, Option.bind_some, Bool.not_true]
      by_cases hc : r ≤ 2147483648
      · have e : nf 0 (-r) = (false, (0, -r)) := by unfold nf; rw [if_pos rfl, if_pos ⟨by omega, by omega⟩]
        rw [e, wi64_of (n := r) (by omega) (by omega), wi64_of (by omega) (by omega), Int.zero_sub]
        simp only [hc, decide_true, cond_true]
      · have e : nf 0 (-r) = (true, (0, 0)) := by unfold nf; rw [if_pos rfl, if_neg (by omega)]
        rw [e]
        simp only [hc, decide_false, cond_false]
  · simp only [h0, decide_false, cond_false]
    have hpos : 0 < m := by omega
    rw [tmod_nat hr]
    have g1 := Int.emod_nonneg r h0
    have g2 := Int.emod_lt_of_pos r hpos
    obtain ⟨s, hs, hs0, hs1, he⟩ : ∃ s, (((cond neg (some (!(decide (r % m = (0 : Int))))) (some false)).bind fun e3 => (cond e3 (some (wu64 (m - r % m))) (some (r % m)))) = some s) ∧ 0 ≤ s ∧ s < m ∧ nf m (cond neg (-r) r) = nf m s := by
      cases neg
      · exact ⟨r % m, rfl, g1, g2, (nf_self h0).symm⟩
      · by_cases hz : r % m = 0
        · refine ⟨0, by simp [hz], by omega, by omega, ?_⟩
          have hd : m ∣ -r := (Int.dvd_neg).2 (Int.dvd_of_emod_eq_zero hz)
          exact nf_emod (by simp only [cond_true]; rw [Int.emod_eq_zero_of_dvd hd]; simp) h0
        · refine ⟨m - r % m, by simp [hz]; exact wu64_of (by omega) (by omega), by omega, by omega, ?_⟩
          refine nf_emod ?_ h0
          have k5 := Int.emod_add_mul_ediv r m
          have : m - r % m = -r + m * (r / m + 1) := by rw [Int.mul_add]; omega
          rw [this, Int.add_mul_emod_self_left]; rfl
    rw [he]
    obtain ⟨e3, hb1, hb2⟩ := Option.bind_eq_some_iff.1 hs
    rw [hb1]
    simp only [Option.bind_some]
    rw [hb2]
    simp only [Option.bind_some]
    obtain ⟨f1, f2, f3, f4, f5, f6⟩ := nf_found hpos hs0 hs1
    have w1 : wu64 (m - s) = m - s := wu64_of (by omega) (by omega)
    simp only [w1]
    by_cases ha : s ≤ 2147483647 <;> by_cases hb : m - s ≤ 2147483648
    · have w2 : wi64 s = s := wi64_of (by omega) (by omega)
      have w3 : wi64 (m - s) = m - s := wi64_of (by omega) (by omega)
      have w4 : wi64 (0 - (m - s)) = s - m := by rw [wi64_of (by omega) (by omega)]; omega
      have w5 : wi64 m = m := wi64_of (by omega) (by omega)
      rw [f6 ha hb]
      simp [w2, w3, w4, w5, ha, hb, ask, nt, gx, V.inRange]
    · have w2 : wi64 s = s := wi64_of (by omega) (by omega)
      have v1 : wu64 s = s := wu64_of (by omega) (by omega)
      have v2 : wu64 (2147483647 - s) = 2147483647 - s := wu64_of (by omega) (by omega)
      by_cases hc : m ≤ 2147483647 - s
      · have w5 : wi64 m = m := wi64_of (by omega) (by omega)
        rw [f2 ha hb hc]
        simp [w2, w5, ha, hb, hc, ask, nt, gx, V.inRange, v1, v2, hs0]
      · rw [f3 ha hb hc]
        simp [w2, ha, hb, hc, ask, nt, gx, V.inRange, v1, v2, hs0, Int.not_lt.2 hs0]
    · have w3 : wi64 (m - s) = m - s := wi64_of (by omega) (by omega)
      have w4 : wi64 (0 - (m - s)) = s - m := by rw [wi64_of (by omega) (by omega)]; omega
      simp only [w3, w4]
      have v3 : f111_m (s - m) = some (m - s) := by rw [f111_eq (by omega) (by omega)]; congr 1; omega
      have v4 : wu64 (2147483648 - (m - s)) = 2147483648 - (m - s) := wu64_of (by omega) (by omega)
      have v5 : ¬ (0 ≤ s - m) := by omega
      have v6 : s - m < 0 := by omega
      have v7 : ¬ m ≤ s := by omega
      by_cases hc : m ≤ 2147483648 - (m - s)
      · have w5 : wi64 m = m := wi64_of (by omega) (by omega)
        have w2 : wi64 s = s := wi64_of (by omega) (by omega)
        rw [f4 ha hb hc]
        simp [w2, w3, w4, w5, ha, hb, hc, ask, nt, gx, V.inRange, v3, v4, v5, v6, v7]
      · rw [f5 ha hb hc]
        simp [w3, w4, ha, hb, hc, ask, nt, gx, V.inRange, v3, v4, v5, v6, v7]
    · rw [f1 ha hb]
      simp [ha, hb, ask, nt, gx, V.inRange]
theorem sgn_eq (x : Int) : cond (decide (x < 0)) (-(x.natAbs : Int)) (x.natAbs : Int) = x := by
 by_cases h : x < 0
 · simp only [h, decide_true, cond_true]; omega
 · simp only [h, decide_false, cond_false]; omega
theorem f71_eq {m x : Int} (hm0 : -9223372036854775808 ≤ m) (hm1 : m ≤ 9223372036854775807) (hx0 : -9223372036854775808 ≤ x) (hx1 : x ≤ 9223372036854775807) : f71_m (m, x) = some (nf (m.natAbs : Int) x) := by
 unfold f71_m f71_c
 simp only
 rw [f111_eq (by omega) (by omega), f111_eq hx0 hx1]
 simp only [Option.bind_some]
 rw [f123_eq (by omega) (by omega) (by omega) (by omega), sgn_eq]; rfl
theorem f109_eq {m x : Int} (hm0 : 0 ≤ m) (hm1 : m < 9223372036854775808) (hx0 : -4611686018427387904 ≤ x) (hx1 : x ≤ 4611686018427387904) : f109_m (m, x) = some (nf m x) := by
 unfold f109_m f109_c
 simp only
 rw [f111_eq (by omega) (by omega)]
 simp only [Option.bind_some]
 rw [f123_eq (by omega) (by omega) (by omega) (by omega), sgn_eq]; rfl
end Go.U
end
section
set_option maxRecDepth 20000
namespace Go.U
open Go
def none31 : TCongr := (true, (0, 0))
theorem none_cr : CR none31 := .inl rfl
theorem gcd_lt {a b N : Nat} (ha : a < N) (hb : b < N) : Nat.gcd a b < N := by
 rcases Nat.eq_zero_or_pos a with h | h
 · subst h; rw [Nat.gcd_zero_left]; exact hb
 · exact Nat.lt_of_le_of_lt (Nat.gcd_le_left b h) ha
theorem CR.true {c : TCongr} (h : CR c) (h1 : c.1 = true) : c = none31 := by
 rcases h with rfl | ⟨h2, _⟩
 · rfl
 · rw [h1] at h2; cases h2
theorem CR.nums {m r : Int} (h : CR ((false, (m, r)) : TCongr)) : ∃ M : Nat, m = (M : Int) ∧ M < 4294967296 ∧ -2147483648 ≤ r ∧ r < 4294967296 ∧ nf m r = (false, (m, r)) ∧ (M = 0 → r ≤ 2147483647) := by
 obtain ⟨a0, a1, a2, a3, a4, a5⟩ := h.bounds rfl
 simp only at a0 a1 a2 a3 a4 a5
 obtain ⟨M, rfl⟩ := Int.eq_ofNat_of_zero_le a0
 exact ⟨M, rfl, by omega, a2, a3, a4, fun h => a5 (by omega)⟩
def negc (x : TCongr) : TCongr := cond x.1 none31 (nf x.2.1 (0 - x.2.2))
theorem neg_eq {x : TCongr} (hx : CR x) : f86_m x = some (negc x) ∧ f135_m x = some (negc x) ∧ CR (negc x) := by
  obtain ⟨b1, m1, r1⟩ := x
  cases b1
  case true => cases hx.true rfl; exact ⟨rfl, rfl, none_cr⟩
  obtain ⟨M1, rfl, p1, p2, p3, p4, p5⟩ := hx.nums
  refine ⟨?_, ?_, nf_cr (by simp only; omega)⟩
  · unfold f86_m f86_c negc
    simp only [cond_false]
    rw [wi64_of (by omega) (by omega), wu64_of (by omega) (by omega), f98_eq (by omega) (by omega) (by omega) (by omega)]; rfl
  · unfold f135_m f135_c negc
    simp only [cond_false]
    rw [f111_eq (by omega) (by omega)]
    simp only [Option.bind_some, Int.natAbs_natCast]
    rw [wi64_of (by omega) (by omega), f109_eq (by omega) (by omega) (by omega) (by omega)]; rfl
def addc (x y : TCongr) : TCongr := cond x.1 none31 (cond y.1 none31 (nf (Nat.gcd x.2.1.natAbs y.2.1.natAbs : Nat) (x.2.2 + y.2.2)))
theorem add_eq {x y : TCongr} (hx : CR x) (hy : CR y) : f89_m (x, y) = some (addc x y) ∧ f137_m (x, y) = some (addc x y) ∧ CR (addc x y) := by
  obtain ⟨b1, m1, r1⟩ := x
  obtain ⟨b2, m2, r2⟩ := y
  cases b1
  case true => exact ⟨rfl, rfl, none_cr⟩
  cases b2
  case true => exact ⟨rfl, rfl, none_cr⟩
  obtain ⟨M1, rfl, p1, p2, p3, p4, p5⟩ := hx.nums
  obtain ⟨M2, rfl, q1, q2, q3, q4, q5⟩ := hy.nums
  have hg := gcd_lt p1 q1
  refine ⟨?_, ?_, nf_cr (by simp only; omega)⟩
  · unfold f89_m f89_c addc
    simp only [cond_false, Int.natAbs_natCast]
    rw [wu64_of (n := (M1 : Int)) (by omega) (by omega), wu64_of (n := (M2 : Int)) (by omega) (by omega), f128_eq _ _ (by omega)]
    simp only [Option.bind_some]
    rw [wi64_of (by omega) (by omega), f98_eq (by omega) (by omega) (by omega) (by omega)]; rfl
  · unfold f137_m f137_c addc
    simp only [cond_false]
    rw [f111_eq (by omega) (by omega), f111_eq (by omega) (by omega)]
    simp only [Option.bind_some, Int.natAbs_natCast]
    rw [f110_eq _ _ (by omega)]
    simp only [Option.bind_some]
    rw [wi64_of (by omega) (by omega), f109_eq (by omega) (by omega) (by omega) (by omega)]; rfl
def subc (x y : TCongr) : TCongr := cond x.1 none31 (cond y.1 none31 (nf (Nat.gcd x.2.1.natAbs y.2.1.natAbs : Nat) (x.2.2 - y.2.2)))
theorem sub_eq {x y : TCongr} (hx : CR x) (hy : CR y) : f90_m (x, y) = some (subc x y) ∧ f138_m (x, y) = some (subc x y) ∧ CR (subc x y) := by
  obtain ⟨b1, m1, r1⟩ := x
  obtain ⟨b2, m2, r2⟩ := y
  cases b1
  case true => exact ⟨rfl, rfl, none_cr⟩
  cases b2
  case true => exact ⟨rfl, rfl, none_cr⟩
  obtain ⟨M1, rfl, p1, p2, p3, p4, p5⟩ := hx.nums
  obtain ⟨M2, rfl, q1, q2, q3, q4, q5⟩ := hy.nums
  have hg := gcd_lt p1 q1
  refine ⟨?_, ?_, nf_cr (by simp only; omega)⟩
  · unfold f90_m f90_c subc
    simp only [cond_false, Int.natAbs_natCast]
    rw [wu64_of (n := (M1 : Int)) (by omega) (by omega), wu64_of (n := (M2 : Int)) (by omega) (by omega), f128_eq _ _ (by omega)]
    simp only [Option.bind_some]
    rw [wi64_of (by omega) (by omega), f98_eq (by omega) (by omega) (by omega) (by omega)]; rfl
  · unfold f138_m f138_c subc
    simp only [cond_false]
    rw [f111_eq (by omega) (by omega), f111_eq (by omega) (by omega)]
    simp only [Option.bind_some, Int.natAbs_natCast]
    rw [f110_eq _ _ (by omega)]
    simp only [Option.bind_some]
    rw [wi64_of (by omega) (by omega), f109_eq (by omega) (by omega) (by omega) (by omega)]; rfl
def joinc (x y : TCongr) : TCongr := cond x.1 y (cond y.1 x (nf (Nat.gcd (Nat.gcd x.2.1.natAbs y.2.1.natAbs) (x.2.2 - y.2.2).natAbs : Nat) x.2.2))
theorem join_eq {x y : TCongr} (hx : CR x) (hy : CR y) : f51_m (x, y) = some (joinc x y) ∧ f56_m (x, y) = some (joinc x y) ∧ CR (joinc x y) := by
  obtain ⟨b1, m1, r1⟩ := x
  obtain ⟨b2, m2, r2⟩ := y
  cases b1
  case true => exact ⟨rfl, rfl, hy⟩
  cases b2
  case true => exact ⟨rfl, rfl, hx⟩
  obtain ⟨M1, rfl, p1, p2, p3, p4, p5⟩ := hx.nums
  obtain ⟨M2, rfl, q1, q2, q3, q4, q5⟩ := hy.nums
  have hg := gcd_lt p1 q1
  have hg2 : Nat.gcd (Nat.gcd M1 M2) (r1 - r2).natAbs < 9223372036854775808 := gcd_lt (by omega) (by omega)
  refine ⟨?_, ?_, nf_cr (by simp only; omega)⟩
  · unfold f51_m f51_c joinc f99_m f99_c
    simp only [cond_false, Int.natAbs_natCast]
    rw [wu64_of (n := (M1 : Int)) (by omega) (by omega), wu64_of (n := (M2 : Int)) (by omega) (by omega), f128_eq _ _ (by omega), wi64_of (by omega) (by omega), f129_eq (by omega) (by omega)]
    simp only [Option.bind_some]
    rw [f128_eq _ _ (by omega)]
    simp only [Option.bind_some]
    rw [f98_eq (by omega) (by omega) (by omega) (by omega)]; rfl
  · unfold f56_m f56_c joinc
    simp only [cond_false]
    rw [f111_eq (by omega) (by omega), f111_eq (by omega) (by omega), wi64_of (by omega) (by omega), f111_eq (x := r1 - r2) (by omega) (by omega)]
    simp only [Option.bind_some, Int.natAbs_natCast]
    rw [f110_eq _ _ (by omega)]
    simp only [Option.bind_some]
    rw [f110_eq _ _ (by omega)]
    simp only [Option.bind_some]
    rw [f109_eq (by omega) (by omega) (by omega) (by omega)]; rfl
def absc (x : TCongr) : TCongr := cond x.1 none31 (if x.2.1 = 0 then nf 0 (x.2.2.natAbs : Int) else joinc x (negc x))
theorem abs_eq {x : TCongr} (hx : CR x) : f88_m x = some (absc x) ∧ f136_m x = some (absc x) ∧ CR (absc x) := by
  obtain ⟨n1, n2, n3⟩ := neg_eq hx
  obtain ⟨j1, j2, j3⟩ := join_eq hx n3
  obtain ⟨b1, m1, r1⟩ := x
  cases b1
  case true => cases hx.true rfl; exact ⟨rfl, rfl, none_cr⟩
  obtain ⟨M1, rfl, p1, p2, p3, p4, p5⟩ := hx.nums
  by_cases h0 : M1 = 0
  · subst h0
    have h3 := p5 rfl
    simp only [absc, cond_false, Int.natCast_zero, if_true] at *
    refine ⟨?_, ?_, nf_cr (Int.le_refl _)⟩
    · unfold f88_m f88_c
      simp only [cond_false, decide_true, cond_true]
      by_cases hr : r1 < 0
      · simp only [hr, decide_true, cond_true]
        rw [wi64_of (by omega) (by omega), f127_to]
        congr 2; omega
      · simp only [hr, decide_false, cond_false]
        rw [← p4]; congr 2; omega
    · unfold f136_m f136_c
      simp only [cond_false, decide_true, cond_true]
      rw [wi64_of (by omega) (by omega)]
      have e : (if 0 - r1 > r1 then 0 - r1 else r1) = (r1.natAbs : Int) := by split <;> omega
      rw [e, f71_eq (by omega) (by omega) (by omega) (by omega)]; rfl
  · have h0' : ¬ ((M1 : Int) = 0) := by omega
    have ea : absc (false, ((M1 : Int), r1)) = joinc (false, ((M1 : Int), r1)) (negc (false, ((M1 : Int), r1))) := by unfold absc; simp only [cond_false]; rw [if_neg h0']
    rw [ea]
    refine ⟨?_, ?_, j3⟩
    · unfold f88_m f88_c
      simp only [cond_false, h0', decide_false]
      rw [n1]; simp only [Option.bind_some]; rw [j1]; rfl
    · unfold f136_m f136_c
      simp only [cond_false, h0', decide_false]
      rw [n2]; simp only [Option.bind_some]; rw [j2]; rfl
def divc (x y : TCongr) : TCongr := cond x.1 none31 (cond y.1 none31 (if y.2.1 = 0 ∧ y.2.2 = 0 then none31 else if ¬ y.2.1 = 0 then (false, (1, 0)) else if x.2.1 = 0 then nf 0 (Int.tdiv x.2.2 y.2.2) else
 if Int.tmod x.2.1 y.2.2 = 0 then (if Int.tmod x.2.2 y.2.2 = 0 then nf ((Int.tdiv x.2.1 y.2.2).natAbs : Int) (Int.tdiv x.2.2 y.2.2) else (false, (1, 0))) else (false, (1, 0))))
theorem all_cr : CR (false, (1, 0)) := .inr ⟨rfl, by decide, by decide⟩
theorem tdiv_le {a b : Int} : -(a.natAbs : Int) ≤ Int.tdiv a b ∧ Int.tdiv a b ≤ (a.natAbs : Int) := by
 have h : (Int.tdiv a b).natAbs ≤ a.natAbs := by rw [Int.natAbs_tdiv]; exact Nat.div_le_self _ _
 omega
theorem div_eq {x y : TCongr} (hx : CR x) (hy : CR y) : f92_m (x, y) = some (divc x y) ∧ f140_m (x, y) = some (divc x y) ∧ CR (divc x y) := by
  obtain ⟨b1, m1, r1⟩ := x
  obtain ⟨b2, m2, r2⟩ := y
  cases b1
  case true => exact ⟨rfl, rfl, none_cr⟩
  cases b2
  case true => exact ⟨rfl, rfl, none_cr⟩
  obtain ⟨M1, rfl, p1, p2, p3, p4, p5⟩ := hx.nums
  obtain ⟨M2, rfl, q1, q2, q3, q4, q5⟩ := hy.nums
  have d1 := @tdiv_le (M1 : Int) r2
  have d2 := @tdiv_le r1 r2
  have w1 : wi64 (Int.tdiv (M1 : Int) r2) = Int.tdiv (M1 : Int) r2 := wi64_of (by omega) (by omega)
  have w2 : wi64 (Int.tdiv r1 r2) = Int.tdiv r1 r2 := wi64_of (by omega) (by omega)
  have e1 : f122_m (Int.tdiv (M1 : Int) r2, Int.tdiv r1 r2) = some (nf ((Int.tdiv (M1 : Int) r2).natAbs : Int) (Int.tdiv r1 r2)) := f122_eq (by omega) (by omega) (by omega) (by omega)
  have e2 : f71_m (Int.tdiv (M1 : Int) r2, Int.tdiv r1 r2) = some (nf ((Int.tdiv (M1 : Int) r2).natAbs : Int) (Int.tdiv r1 r2)) := f71_eq (by omega) (by omega) (by omega) (by omega)
  have e3 := f127_to (Int.tdiv r1 r2)
  unfold f92_m f92_c f140_m f140_c divc
  simp only [cond_false, w1, w2]
  clear hx hy p4 q4 d1 d2
  generalize (M1 : Int) = m1 at *
  generalize (M2 : Int) = m2 at *
  by_cases h2 : m2 = 0
  · by_cases h3 : r2 = 0
    · simp [h2, h3, none31]
      exact none_cr
    · by_cases h1 : m1 = 0
      · have e2' := e2
        rw [h1] at e2'
        simp [h2, h3, h1, e3] at e2' ⊢
        exact ⟨e2', nf_cr (Int.le_refl _)⟩
      · by_cases h4 : Int.tmod m1 r2 = 0
        · by_cases h5 : Int.tmod r1 r2 = 0
          · simp only [h2, h3, h1, h4, h5, e1, e2, decide_true, decide_false, cond_true, cond_false, Bool.not_true, Bool.not_false, and_false, false_and, if_true, if_false, Bool.and_false, Bool.false_and, not_true, not_false_eq_true, Option.bind_some, true_and]
            exact nf_cr (by omega)
          · simp [h2, h3, h1, h4, h5]; exact all_cr
        · simp [h2, h3, h1, h4]; exact all_cr
  · simp [h2]; exact all_cr
def modc (x y : TCongr) : TCongr := cond x.1 none31 (cond y.1 none31 (if y.2.1 = 0 ∧ y.2.2 = 0 then none31 else if x.2.1 = 0 ∧ y.2.1 = 0 then nf 0 (Int.tmod x.2.2 y.2.2) else nf (Nat.gcd (Nat.gcd x.2.1.natAbs y.2.1.natAbs) y.2.2.natAbs : Nat) x.2.2))
theorem tmod_le {a b : Int} : -(a.natAbs : Int) ≤ Int.tmod a b ∧ Int.tmod a b ≤ (a.natAbs : Int) := by
 have h : (Int.tmod a b).natAbs ≤ a.natAbs := by rw [Int.natAbs_tmod]; exact Nat.mod_le _ _
 omega
theorem mod_eq {x y : TCongr} (hx : CR x) (hy : CR y) : f93_m (x, y) = some (modc x y) ∧ f141_m (x, y) = some (modc x y) ∧ CR (modc x y) := by
  obtain ⟨b1, m1, r1⟩ := x
  obtain ⟨b2, m2, r2⟩ := y
  cases b1
  case true => exact ⟨rfl, rfl, none_cr⟩
  cases b2
  case true => exact ⟨rfl, rfl, none_cr⟩
  obtain ⟨M1, rfl, p1, p2, p3, p4, p5⟩ := hx.nums
  obtain ⟨M2, rfl, q1, q2, q3, q4, q5⟩ := hy.nums
  have d2 := @tmod_le r1 r2
  have hg := gcd_lt p1 q1
  have hg2 : Nat.gcd (Nat.gcd M1 M2) r2.natAbs < 9223372036854775808 := gcd_lt (by omega) (by omega)
  have hg3 : Nat.gcd M2 r2.natAbs < 9223372036854775808 := gcd_lt (by omega) (by omega)
  have e0 : f71_m (0, Int.tmod r1 r2) = some (nf 0 (Int.tmod r1 r2)) := f71_eq (by omega) (by omega) (by omega) (by omega)
  have e3 := f127_to (Int.tmod r1 r2)
  have v1 : wu64 (M1 : Int) = M1 := wu64_of (by omega) (by omega)
  have v2 : wu64 (M2 : Int) = M2 := wu64_of (by omega) (by omega)
  have u1 : f128_m ((M1 : Int), (M2 : Int)) = some (Nat.gcd M1 M2 : Int) := f128_eq _ _ (by omega)
  have u2 : f129_m r2 = some (r2.natAbs : Int) := f129_eq (by omega) (by omega)
  have u3 : f128_m ((Nat.gcd M1 M2 : Nat), (r2.natAbs : Int)) = some (Nat.gcd (Nat.gcd M1 M2) r2.natAbs : Int) := f128_eq _ _ (by omega)
  have u4 : f98_m ((Nat.gcd (Nat.gcd M1 M2) r2.natAbs : Nat), r1) = some (nf (Nat.gcd (Nat.gcd M1 M2) r2.natAbs : Nat) r1) := f98_eq (by omega) (by omega) (by omega) (by omega)
  have t1 : f111_m (M1 : Int) = some (M1 : Int) := f111_eq (by omega) (by omega)
  have t2 : f111_m (M2 : Int) = some (M2 : Int) := f111_eq (by omega) (by omega)
  have t3 : f111_m r2 = some (r2.natAbs : Int) := f111_eq (by omega) (by omega)
  have t4 : f110_m ((M2 : Int), (r2.natAbs : Int)) = some (Nat.gcd M2 r2.natAbs : Int) := f110_eq _ _ (by omega)
  have t5 : f110_m ((M1 : Int), (Nat.gcd M2 r2.natAbs : Nat)) = some (Nat.gcd (Nat.gcd M1 M2) r2.natAbs : Int) := by rw [f110_eq _ _ (by omega), Nat.gcd_assoc]
  have t6 : f109_m ((Nat.gcd (Nat.gcd M1 M2) r2.natAbs : Nat), r1) = some (nf (Nat.gcd (Nat.gcd M1 M2) r2.natAbs : Nat) r1) := f109_eq (by omega) (by omega) (by omega) (by omega)
  have hcr : CR (nf (Nat.gcd (Nat.gcd M1 M2) r2.natAbs : Nat) r1) := nf_cr (by omega)
  have A : ((f128_m ((wu64 (M1 : Int)), (wu64 (M2 : Int)))).bind fun r2' => (f129_m r2).bind fun r3 => (f128_m (r2', r3)).bind fun r4 => (f98_m (r4, r1)).bind fun r5 => some r5) = some (nf (Nat.gcd (Nat.gcd M1 M2) r2.natAbs : Nat) r1) := by
    rw [v1, v2, u1, u2]; simp only [Option.bind_some]; rw [u3]; simp only [Option.bind_some]; rw [u4]; rfl
  have B : ((f111_m (M1 : Int)).bind fun r2' => (f111_m (M2 : Int)).bind fun r3 => (f111_m r2).bind fun r4 => (f110_m (r3, r4)).bind fun r5 => (f110_m (r2', r5)).bind fun r6 => (f109_m (r6, r1)).bind fun r7 => some r7) = some (nf (Nat.gcd (Nat.gcd M1 M2) r2.natAbs : Nat) r1) := by
    rw [t1, t2, t3]; simp only [Option.bind_some]; rw [t4]; simp only [Option.bind_some]; rw [t5]; simp only [Option.bind_some]; rw [t6]; rfl
  unfold f93_m f93_c f141_m f141_c modc
  simp only [cond_false, Int.natAbs_natCast]
  rw [A, B]
  by_cases h2 : (M2 : Int) = 0
  · by_cases h3 : r2 = 0
    · simp [h2, h3, none31]
      exact none_cr
    · by_cases h1 : (M1 : Int) = 0
      · simp [h2, h3, h1, e3, e0]
        exact nf_cr (Int.le_refl _)
      · simp only [h1, decide_false, cond_false, h2, h3, false_and, and_false, if_false, Bool.false_and, Bool.and_false, decide_true]
        exact ⟨trivial, trivial, hcr⟩
  · by_cases h1 : (M1 : Int) = 0
    · simp only [h2, h1, decide_false, cond_false, decide_true, cond_true, false_and, and_false, if_false, Bool.false_and, Bool.and_false]
      exact ⟨trivial, trivial, hcr⟩
    · simp only [h2, h1, decide_false, cond_false, decide_true, cond_true, false_and, and_false, if_false, Bool.false_and, Bool.and_false]
      exact ⟨trivial, trivial, hcr⟩
end Go.U
end
section
set_option maxRecDepth 20000
namespace Go.U
open Go
theorem and32 {x : Int} (h0 : 0 ≤ x) (h1 : x < 18446744073709551616) : bits_and .u64 x 4294967295 = x % 4294967296 := by
 obtain ⟨n, rfl⟩ := Int.eq_ofNat_of_zero_le h0
 have hn : n < 2 ^ 64 := by omega
 have e : bits_and .u64 (n : Int) 4294967295 = wu64 (((BitVec.ofInt 64 (n : Int)) &&& (BitVec.ofInt 64 4294967295)).toNat : Int) := rfl
 rw [e, BitVec.toNat_and]
 have e1 : (BitVec.ofInt 64 (n : Int)).toNat = n := by simp [BitVec.ofInt_natCast, Nat.mod_eq_of_lt hn]
 have e2 : (BitVec.ofInt 64 4294967295).toNat = 2 ^ 32 - 1 := rfl
 rw [e1, e2, Nat.and_two_pow_sub_one_eq_mod]
 rw [wu64_of (by omega) (by omega)]
 omega
theorem hi0 {a b : Int} (ha : 0 ≤ a) (ha1 : a < 4294967296) (hb : 0 ≤ b) (hb1 : b < 4294967296) :
  (wu64 ((wu64 ((wu64 ((Int.fdiv a (2 ^ min 32 64)) * (Int.fdiv b (2 ^ min 32 64)))) + (Int.fdiv (wu64 ((wu64 ((Int.fdiv a (2 ^ min 32 64)) * (bits_and .u64 b 4294967295))) + (Int.fdiv (wu64 ((bits_and .u64 a 4294967295) * (bits_and .u64 b 4294967295))) (2 ^ min 32 64)))) (2 ^ min 32 64)))) + (Int.fdiv (wu64 ((bits_and .u64 (wu64 ((wu64 ((Int.fdiv a (2 ^ min 32 64)) * (bits_and .u64 b 4294967295))) + (Int.fdiv (wu64 ((bits_and .u64 a 4294967295) * (bits_and .u64 b 4294967295))) (2 ^ min 32 64)))) 4294967295) + (wu64 ((bits_and .u64 a 4294967295) * (Int.fdiv b (2 ^ min 32 64)))))) (2 ^ min 32 64)))) = 0 := by
 have p : ((2 : Int) ^ min 32 64) = 4294967296 := by decide
 rw [p]
 have f : ∀ {x : Int}, 0 ≤ x → x < 4294967296 → Int.fdiv x 4294967296 = 0 := fun h0 h1 => by
  rw [Int.fdiv_eq_ediv_of_nonneg _ (by decide)]; omega
 rw [f ha ha1, f hb hb1, and32 ha (by omega), and32 hb (by omega)]
 have e1 : a % 4294967296 = a := by omega
 have e2 : b % 4294967296 = b := by omega
 rw [e1, e2]
 have hab0 : 0 ≤ a * b := Int.mul_nonneg ha hb
 have hab : a * b ≤ 4294967295 * 4294967295 := Int.mul_le_mul (by omega) (by omega) hb (by decide)
 simp only [Int.zero_mul, Int.mul_zero]
 rw [wu64_of (n := a * b) hab0 (by omega), wu64_of (n := 0) (by decide) (by decide)]
 have g0 : 0 ≤ Int.fdiv (a * b) 4294967296 ∧ Int.fdiv (a * b) 4294967296 < 4294967296 := by
  rw [Int.fdiv_eq_ediv_of_nonneg _ (by decide)]; omega
 simp only [Int.zero_add, Int.add_zero]
 rw [wu64_of (n := Int.fdiv (a * b) 4294967296) g0.1 (by omega), and32 g0.1 (by omega), f g0.1 g0.2]
 have e3 : Int.fdiv (a * b) 4294967296 % 4294967296 = Int.fdiv (a * b) 4294967296 := by omega
 rw [e3, wu64_of (n := 0) (by decide) (by decide), wu64_of (n := Int.fdiv (a * b) 4294967296) g0.1 (by omega), f g0.1 g0.2]
 decide
theorem f130_eq {a b : Int} (ha0 : -2147483648 ≤ a) (ha1 : a < 4294967296) (hb0 : -2147483648 ≤ b) (hb1 : b < 4294967296) :
  f130_m (a, b) = some (((0, ((a.natAbs * b.natAbs : Nat) : Int)), (!((decide (a < (0 : Int))) == (decide (b < (0 : Int)))))) : TProduct) := by
 unfold f130_m f130_c
 simp only
 rw [f129_eq (by omega) (by omega), f129_eq (by omega) (by omega)]
 simp only [Option.bind_some]
 rw [hi0 (by omega) (by omega) (by omega) (by omega)]
 have h0 : (0 : Int) ≤ (a.natAbs : Int) * (b.natAbs : Int) := Int.mul_nonneg (by omega) (by omega)
 have h1 : (a.natAbs : Int) * (b.natAbs : Int) ≤ 4294967295 * 4294967295 := Int.mul_le_mul (by omega) (by omega) (by omega) (by decide)
 rw [wu64_of h0 (by omega), Int.natCast_mul]
theorem f131_eq {lo g : Int} (hg : 0 < g) (h0 : 0 ≤ lo) : f131_m (((0, lo) : TItv), g) = some (lo % g) := by
 unfold f131_m f131_c f162_m f162_c f169_m f169_c
 have e0 : ¬ g = 0 := by omega
 have e1 : ¬ g ≤ 0 := by omega
 simp only [e0, decide_false, cond_false, Int.zero_tmod, e1, decide_true, cond_true, Option.bind_some]
 rw [tmod_nat h0]
def mulc (x y : TCongr) : TCongr := cond x.1 none31 (cond y.1 none31 (nf (Nat.gcd (x.2.1.natAbs * y.2.1.natAbs) (Nat.gcd (x.2.1.natAbs * y.2.2.natAbs) (y.2.1.natAbs * x.2.2.natAbs)) : Nat)
 (cond (!((decide (x.2.2 < (0 : Int))) == (decide (y.2.2 < (0 : Int))))) (-((x.2.2.natAbs * y.2.2.natAbs : Nat) : Int)) ((x.2.2.natAbs * y.2.2.natAbs : Nat) : Int))))
theorem mul_lt {a b : Nat} (ha : a < 4294967296) (hb : b < 4294967296) : a * b ≤ 18446744065119617025 := by
 have := Nat.mul_le_mul (Nat.le_of_lt_succ (show a < 4294967295 + 1 by omega)) (Nat.le_of_lt_succ (show b < 4294967295 + 1 by omega)); omega
theorem nf0_big {x : Int} (h : ¬ (-2147483648 ≤ x ∧ x ≤ 2147483647)) : nf 0 x = none31 := by unfold nf none31; rw [if_pos rfl, if_neg h]
theorem mul_eq {x y : TCongr} (hx : CR x) (hy : CR y) : f91_m (x, y) = some (mulc x y) ∧ f139_m (x, y) = some (mulc x y) ∧ CR (mulc x y) := by
  obtain ⟨b1, m1, r1⟩ := x
  obtain ⟨b2, m2, r2⟩ := y
  cases b1
  case true => exact ⟨rfl, rfl, none_cr⟩
  cases b2
  case true => exact ⟨rfl, rfl, none_cr⟩
  obtain ⟨M1, rfl, p1, p2, p3, p4, p5⟩ := hx.nums
  obtain ⟨M2, rfl, q1, q2, q3, q4, q5⟩ := hy.nums
  obtain ⟨R1, hR1⟩ : ∃ R, r1.natAbs = R := ⟨_, rfl⟩
  obtain ⟨R2, hR2⟩ : ∃ R, r2.natAbs = R := ⟨_, rfl⟩
  have l1 : R1 < 4294967296 := by omega
  have l2 : R2 < 4294967296 := by omega
  have a1 := mul_lt p1 q1
  have a2 := mul_lt p1 l2
  have a3 := mul_lt q1 l1
  have a4 := mul_lt l1 l2
  have v1 : wu64 (M1 : Int) = M1 := wu64_of (by omega) (by omega)
  have v2 : wu64 (M2 : Int) = M2 := wu64_of (by omega) (by omega)
  have pr : ∀ {a b : Nat}, a * b ≤ 18446744065119617025 → wu64 ((a : Int) * (b : Int)) = ((a * b : Nat) : Int) := fun {a b} h => by
    rw [← Int.natCast_mul]; exact wu64_of (by omega) (by omega)
  obtain ⟨P, hP⟩ : ∃ P, R1 * R2 = P := ⟨_, rfl⟩
  obtain ⟨G, hG⟩ : ∃ G, Nat.gcd (M1 * M2) (Nat.gcd (M1 * R2) (M2 * R1)) = G := ⟨_, rfl⟩
  have g1 : Nat.gcd (M1 * M2) (M1 * R2) < 18446744073709551616 := gcd_lt (by omega) (by omega)
  have g2 : Nat.gcd (M1 * R2) (M2 * R1) < 18446744073709551616 := gcd_lt (by omega) (by omega)
  have g3 : G < 18446744073709551616 := by rw [← hG]; exact gcd_lt (by omega) g2
  have em : mulc (false, ((M1 : Int), r1)) (false, ((M2 : Int), r2)) = nf (G : Int) (cond (!((decide (r1 < (0 : Int))) == (decide (r2 < (0 : Int))))) (-(P : Int)) (P : Int)) := by
    unfold mulc; simp only [cond_false, Int.natAbs_natCast, hR1, hR2, hP, hG]
  rw [em]
  refine ⟨?_, ?_, nf_cr (by omega)⟩
  · unfold f91_m f91_c
    simp only [cond_false]
    rw [f129_eq (x := r2) (by omega) (by omega), f129_eq (x := r1) (by omega) (by omega), hR1, hR2, v1, v2]
    simp only [Option.bind_some]
    rw [pr (by omega), pr (by omega), pr (by omega), f128_eq _ _ (by omega)]
    simp only [Option.bind_some]
    rw [f128_eq _ _ (by omega), Nat.gcd_assoc, hG, f130_eq p2 p3 q2 q3, hR1, hR2, hP]
    simp only [Option.bind_some]
    by_cases h0 : G = 0
    · subst h0
      simp only [Int.natCast_zero, decide_true, cond_true, Bool.not_true, cond_false]
      by_cases hb : (4611686018427387904 : Int) < (P : Int)
      · simp only [hb, decide_true, cond_true]
        cases !((decide (r1 < (0 : Int))) == (decide (r2 < (0 : Int))))
        · rw [cond_false, nf0_big (by omega)]; rfl
        · rw [cond_true, nf0_big (by omega)]; rfl
      · simp only [hb, decide_false, cond_false]
        cases !((decide (r1 < (0 : Int))) == (decide (r2 < (0 : Int))))
        · rw [cond_false, cond_false, wi64_of (by omega) (by omega), f127_to]
        · rw [cond_true, cond_true, wi64_of (n := (P : Int)) (by omega) (by omega), wi64_of (by omega) (by omega), f127_to, Int.zero_sub]
    · have h0' : ¬ ((G : Int) = 0) := by omega
      simp only [h0', decide_false, cond_false]
      rw [f131_eq (by omega) (by omega)]
      simp only [Option.bind_some]
      have k1 := Int.emod_nonneg (P : Int) h0'
      have k2 := Int.emod_lt_of_pos (P : Int) (show 0 < (G : Int) by omega)
      cases !((decide (r1 < (0 : Int))) == (decide (r2 < (0 : Int))))
      · rw [cond_false, cond_false, f132_eq (by omega) (by omega) k1 k2, nf_self h0']; rfl
      · rw [cond_true, cond_true]
        have k5 := Int.emod_add_mul_ediv (P : Int) G
        by_cases hr : 0 < (P : Int) % G
        · simp only [hr, decide_true, cond_true]
          rw [wu64_of (by omega) (by omega), f132_eq (by omega) (by omega) (by omega) (by omega)]
          simp only [Option.bind_some]
          congr 1
          refine nf_emod ?_ h0'
          have : (G : Int) - P % G = -(P : Int) + G * (P / G + 1) := by rw [Int.mul_add]; omega
          rw [this, Int.add_mul_emod_self_left]
        · simp only [hr, decide_false, cond_false]
          have hz : (P : Int) % G = 0 := by omega
          rw [hz, f132_eq (by omega) (by omega) (by omega) (by omega)]
          simp only [Option.bind_some]
          congr 1
          refine nf_emod ?_ h0'
          have hd : (G : Int) ∣ -(P : Int) := (Int.dvd_neg).2 (Int.dvd_of_emod_eq_zero hz)
          rw [Int.emod_eq_zero_of_dvd hd]; simp
  · unfold f139_m f139_c
    simp only [cond_false]
    rw [f111_eq (x := r2) (by omega) (by omega), f111_eq (x := r1) (by omega) (by omega), f111_eq (x := (M1 : Int)) (by omega) (by omega), f111_eq (x := (M2 : Int)) (by omega) (by omega), hR1, hR2]
    simp only [Option.bind_some, Int.natAbs_natCast]
    rw [pr (by omega), pr (by omega), pr (by omega), pr (by omega), hP, f110_eq _ _ (by omega)]
    simp only [Option.bind_some]
    rw [f110_eq _ _ (by omega), hG]
    simp only [Option.bind_some]
    rw [f123_eq (by omega) (by omega) (by omega) (by omega)]; rfl
def jc (x y : TCongr) : TCongr := cond x.1 none31 (cond y.1 none31 (joinc x y))
theorem jc_eq {x y : TCongr} (hx : CR x) (hy : CR y) : f83_m (x, y) = some (jc x y) ∧ CR (jc x y) := by
  obtain ⟨h1, h2, h3⟩ := join_eq hx hy
  unfold f83_m f83_c jc
  cases hb1 : x.1
  · cases hb2 : y.1
    · simp only [hb1, hb2, cond_false]; rw [h1]; exact ⟨rfl, h3⟩
    · simp only [hb1, hb2, cond_false, cond_true]; exact ⟨rfl, none_cr⟩
  · simp only [hb1, cond_true]; exact ⟨rfl, none_cr⟩
theorem f85_eq {x y : TCongr} (hx : CR x) : f85_m (x, y) = some (negc x) := by
 unfold f85_m f85_c; simp only; rw [(neg_eq hx).1]; rfl
theorem f87_eq {x y : TCongr} (hx : CR x) : f87_m (x, y) = some (absc x) := by
 unfold f87_m f87_c; simp only; rw [(abs_eq hx).1]; rfl
theorem f70_eq (x : Int) : f70_m x = some (nf 0 x) := by
 unfold f70_m f70_c f122_m f122_c; simp only [decide_true, cond_true]; rw [f127_to]; rfl
theorem f134_eq : f134_m () = some (false, (1, 0)) := by
 unfold f134_m f134_c; rw [f122_eq (by decide) (by decide) (by decide) (by decide)]; rfl
theorem f71_0 {x : Int} (h0 : -9223372036854775808 ≤ x) (h1 : x ≤ 9223372036854775807) : f71_m (0, x) = some (nf 0 x) := f71_eq (by decide) (by decide) h0 h1
theorem f71_1 : f71_m (1, 0) = some (false, (1, 0)) := f71_eq (by decide) (by decide) (by decide) (by decide)
end Go.U
end
