/- What these Lean functions compute: plain arithmetic of congruences, the checks of a graph, the values of its registers. -/
import Derived.Test.YtcbcifeaalkdfaaGreatDoorD3
import Derived.Test.YtcbcifeaalkdfaaGreatDoorB4
set_option linter.unusedVariables false
set_option linter.unusedSimpArgs false
set_option linter.unusedSectionVars false
section
set_option maxRecDepth 20000
namespace Go.U
open Go
def I64 (x : Int) : Prop := -9223372036854775808 ≤ x ∧ x ≤ 9223372036854775807
def CI (c : TCongr) : Prop := I64 c.2.1 ∧ I64 c.2.2
theorem f82_eq {c : TCongr} (h : CI c) : ∃ r, f82_m c = some r ∧ (r = true → CR c) := by
  obtain ⟨b, m, x⟩ := c
  obtain ⟨⟨h1, h2⟩, h3, h4⟩ := h
  simp only at h1 h2 h3 h4
  unfold f82_m f82_c
  cases b
  · simp only [cond_false]
    by_cases hm : 0 ≤ m
    · simp only [hm, decide_true, cond_true]
      rw [f71_eq h1 h2 h3 h4]
      simp only [Option.bind_some]
      have e : (m.natAbs : Int) = m := by omega
      rw [e]
      refine ⟨_, rfl, fun hr => .inr ⟨rfl, hm, ?_⟩⟩
      simp at hr
      rcases hq : nf m x with ⟨b1, m1, x1⟩
      rw [hq] at hr
      simp at hr
      obtain ⟨rfl, rfl, rfl⟩ := hr
      rfl
    · simp only [hm, decide_false, cond_false]; exact ⟨false, rfl, fun h => by cases h⟩
  · simp only [cond_true]
    by_cases hm : m = 0
    · simp only [hm, decide_true, cond_true]
      exact ⟨_, rfl, fun hr => .inl (by simp at hr; rw [hr])⟩
    · simp only [hm, decide_false, cond_false]; exact ⟨false, rfl, fun h => by cases h⟩
theorem f44_eq {l : List TCongr} {n : Int} (hl : l.length ≤ 9223372036854775807) (hc : ∀ c ∈ l, CI c) : ∃ r, f44_m (l, n) = some r ∧ (r = true → (l.length : Int) = n ∧ ∀ j, j < l.length → CR (gx l j dCongr)) := by
  unfold f44_m f44_c
  simp only [nt]
  by_cases hn : (l.length : Int) = n
  · subst hn
    simp only [decide_true, Bool.not_true, cond_false]
    obtain ⟨e, h1, h2⟩ := each_tot2 (n := l.length) (step := f44_l4.m (l, (l.length : Int))) hl (fun k => ∀ j, j < k → CR (gx l j dCongr)) (fun e => (∃ u, e = .inl u) ∨ (∃ u, e = .inr u) ∧ ∀ j, j < l.length → CR (gx l j dCongr)) (fun j h => absurd h (Nat.not_lt_zero _)) (fun k hk hI => by
      have h' : (k : Int) < (l.length : Int) := by omega
      simp only [LD.m, f44_l4, h', decide_true, cond_true, inR hk, ask_true, Int.toNat_natCast]
      refine gd_cond (fun _ => gd_ke (.inl ⟨(), rfl⟩)) fun _ => ?_
      obtain ⟨r, q1, q2⟩ := f82_eq (hc (gx l k dCongr) (List.mem_of_getElem? (gx_lt hk)))
      rw [q1]
      simp only [Option.bind_some]
      cases r
      · exact gd_ke (.inl ⟨(), rfl⟩)
      · exact gd_ki fun j hj => by
          by_cases e : j = k
          · subst e; exact q2 rfl
          · exact hI j (by omega)) (fun hI => by
      simp only [LD.m, f44_l4, Int.lt_irrefl, decide_false, cond_false]
      exact ⟨_, rfl, .inr ⟨⟨(), rfl⟩, hI⟩⟩)
    rw [h1]
    simp only [Option.bind_some]
    rcases h2 with ⟨u, rfl⟩ | ⟨⟨u, rfl⟩, hI⟩
    · exact ⟨false, rfl, fun h => by cases h⟩
    · exact ⟨true, rfl, fun _ => ⟨trivial, hI⟩⟩
  · simp only [hn, decide_false, Bool.not_false, cond_true]; exact ⟨false, rfl, fun h => by cases h⟩
structure LensM (s : TMods) : Prop where
 a : s.2.1.length ≤ 9223372036854775807
 b : s.2.2.length ≤ 9223372036854775807
 ca : ∀ c ∈ s.2.1, CI c
 cb : ∀ c ∈ s.2.2, CI c
structure FitS (g : TGraph) (s : TMods) : Prop where
 sl : s.2.1.length = (scs g).length
 il : s.2.2.length = (inps g).length
 sc : ∀ j, j < s.2.1.length → CR (gx s.2.1 j dCongr)
 ic : ∀ j, j < s.2.2.length → CR (gx s.2.2 j dCongr)
theorem f11_eq {g : TGraph} {s : TMods} (h : LensM s) : ∃ r, f11_m (g, s) = some r ∧ (r = true → s.1 = true → FitS g s) := by
  unfold f11_m f11_c
  cases hb : s.1
  · simp only [hb, Bool.not_false, cond_true]
    obtain ⟨r, hr⟩ := (cond_some (some_tot _) (some_tot _) : ∃ r, (cond (decide ((nt (List.length s.2.1)) = (0 : Int))) (some (decide ((nt (List.length s.2.2)) = (0 : Int)))) (some false)) = some r)
    exact ⟨r, hr, fun _ h => by cases h⟩
  · simp only [hb, Bool.not_true, cond_false]
    obtain ⟨r1, q1, q2⟩ := f44_eq (n := nt (List.length g.2.2.2.2.2.1)) h.a h.ca
    rw [q1]
    simp only [Option.bind_some]
    cases r1
    · exact ⟨false, rfl, fun h => by cases h⟩
    · obtain ⟨r2, q3, q4⟩ := f44_eq (n := nt (List.length g.2.2.2.2.2.2.1)) h.b h.cb
      simp only [cond_true]
      rw [q3]
      refine ⟨r2, rfl, fun hr _ => ?_⟩
      obtain ⟨a1, a2⟩ := q2 rfl
      obtain ⟨b1, b2⟩ := q4 hr
      simp only [nt] at a1 b1
      exact ⟨Int.ofNat.inj a1, Int.ofNat.inj b1, a2, b2⟩
def opv (g : TGraph) (s : TMods) (y : TInstr) (v : Int → TCongr) : TCongr :=
 if y.1 = 1 then nf 0 y.2.2.2.2.1
 else if y.1 = 2 then negc (v y.2.2.1)
 else if y.1 = 3 then absc (v y.2.2.1)
 else if y.1 = 4 then addc (v y.2.2.1) (v y.2.2.2.1)
 else if y.1 = 5 then subc (v y.2.2.1) (v y.2.2.2.1)
 else if y.1 = 6 then mulc (v y.2.2.1) (v y.2.2.2.1)
 else if y.1 = 7 then divc (v y.2.2.1) (v y.2.2.2.1)
 else if y.1 = 8 then modc (v y.2.2.1) (v y.2.2.2.1)
 else if y.1 = 11 then gx s.2.2 y.2.2.1.toNat dCongr
 else if y.1 = 12 then (if (gx (arrs g) y.2.2.1.toNat dArray).2.2.1 = (gx (arrs g) y.2.2.1.toNat dArray).2.2.2 then nf 0 (gx (arrs g) y.2.2.1.toNat dArray).2.2.1 else (false, (1, 0)))
 else jc (v y.2.2.1) (v y.2.2.2.1)
structure NumsG (g : TGraph) : Prop where
 k : ∀ j, j < g.1.length → I64 (at' g j).2.2.2.2.1
 a : ∀ j, j < (arrs g).length → I64 (gx (arrs g) j dArray).2.2.1
def Ops (y : TInstr) (P : Int → Prop) : Prop :=
 (y.1 = 2 ∨ y.1 = 3 → P y.2.2.1) ∧ (4 ≤ y.1 ∧ y.1 ≤ 10 → P y.2.2.1 ∧ P y.2.2.2.1)
theorem uses_ops {y : TInstr} {P : Int → Prop} (h : ∀ x ∈ f41_l y, P x) : Ops y P := by
  refine ⟨fun k => ?_, fun k => ?_⟩
  · rcases k with k | k <;> exact h _ (by simp [f41_l, k])
  · have : y.1 = 4 ∨ y.1 = 5 ∨ y.1 = 6 ∨ y.1 = 7 ∨ y.1 = 8 ∨ y.1 = 9 ∨ y.1 = 10 := by omega
    rcases this with k | k | k | k | k | k | k <;> exact ⟨h _ (by simp [f41_l, k]), h _ (by simp [f41_l, k])⟩
theorem f95_eq {g : TGraph} {s : TMods} {y : TInstr} {out : List TCongr} (hd : isD y = true) (hk : I64 y.2.2.2.2.1) (hna : ∀ j, j < (arrs g).length → I64 (gx (arrs g) j dArray).2.2.1) (hi : Idx g y) (hs : FitS g s)
    (ho : Ops y fun x => 0 ≤ x ∧ x < (out.length : Int) ∧ CR (gx out x.toNat dCongr)) :
    f95_m (g, s, y, out) = some (opv g s y fun x => gx out x.toNat dCongr) ∧ CR (opv g s y fun x => gx out x.toNat dCongr) := by
  obtain ⟨d1, d2⟩ := isD_true.1 hd
  have hc : y.1 = 1 ∨ y.1 = 2 ∨ y.1 = 3 ∨ y.1 = 4 ∨ y.1 = 5 ∨ y.1 = 6 ∨ y.1 = 7 ∨ y.1 = 8 ∨ y.1 = 9 ∨ y.1 = 10 ∨ y.1 = 11 ∨ y.1 = 12 := by omega
  unfold f95_m f95_c opv
  rcases hc with k | k | k | k | k | k | k | k | k | k | k | k
  · simp only [k]
    refine ⟨?_, nf_cr (Int.le_refl _)⟩
    simp
    rw [f71_0 hk.1 hk.2]
  · obtain ⟨u1, u2, u3⟩ := ho.1 (.inl k)
    obtain ⟨n1, n2, n3⟩ := neg_eq u3
    simp [k, inRI u1 u2, ask_true, n2, n3]
  · obtain ⟨u1, u2, u3⟩ := ho.1 (.inr k)
    obtain ⟨n1, n2, n3⟩ := abs_eq u3
    simp [k, inRI u1 u2, ask_true, n2, n3]
  · obtain ⟨⟨u1, u2, u3⟩, v1, v2, v3⟩ := ho.2 (by omega)
    obtain ⟨n1, n2, n3⟩ := add_eq u3 v3
    simp [k, inRI u1 u2, inRI v1 v2, ask_true, n2, n3]
  · obtain ⟨⟨u1, u2, u3⟩, v1, v2, v3⟩ := ho.2 (by omega)
    obtain ⟨n1, n2, n3⟩ := sub_eq u3 v3
    simp [k, inRI u1 u2, inRI v1 v2, ask_true, n2, n3]
  · obtain ⟨⟨u1, u2, u3⟩, v1, v2, v3⟩ := ho.2 (by omega)
    obtain ⟨n1, n2, n3⟩ := mul_eq u3 v3
    simp [k, inRI u1 u2, inRI v1 v2, ask_true, n2, n3]
  · obtain ⟨⟨u1, u2, u3⟩, v1, v2, v3⟩ := ho.2 (by omega)
    obtain ⟨n1, n2, n3⟩ := div_eq u3 v3
    simp [k, inRI u1 u2, inRI v1 v2, ask_true, n2, n3]
  · obtain ⟨⟨u1, u2, u3⟩, v1, v2, v3⟩ := ho.2 (by omega)
    obtain ⟨n1, n2, n3⟩ := mod_eq u3 v3
    simp [k, inRI u1 u2, inRI v1 v2, ask_true, n2, n3]
  · obtain ⟨⟨u1, u2, u3⟩, v1, v2, v3⟩ := ho.2 (by omega)
    obtain ⟨n1, n2, n3⟩ := join_eq u3 v3
    obtain ⟨_, j2⟩ := jc_eq u3 v3
    simp only [k]
    refine ⟨?_, by simpa using j2⟩
    simp [inRI u1 u2, inRI v1 v2, ask_true, n2, jc, none31]
    cases (gx out y.2.2.1.toNat dCongr).1 <;> cases (gx out y.2.2.2.1.toNat dCongr).1 <;> rfl
  · obtain ⟨⟨u1, u2, u3⟩, v1, v2, v3⟩ := ho.2 (by omega)
    obtain ⟨n1, n2, n3⟩ := join_eq u3 v3
    obtain ⟨_, j2⟩ := jc_eq u3 v3
    simp only [k]
    refine ⟨?_, by simpa using j2⟩
    simp [inRI u1 u2, inRI v1 v2, ask_true, n2, jc, none31]
    cases (gx out y.2.2.1.toNat dCongr).1 <;> cases (gx out y.2.2.2.1.toNat dCongr).1 <;> rfl
  · obtain ⟨u1, u2⟩ := hi.k11 (.inl k)
    have u2' : y.2.2.1 < (s.2.2.length : Int) := by rw [hs.il]; exact u2
    have := hs.ic y.2.2.1.toNat (by omega)
    simp [k, inRI u1 u2', ask_true, this]
  · obtain ⟨u1, u2⟩ := hi.k12 k
    have u2' : y.2.2.1 < (List.length g.2.2.2.2.1 : Int) := u2
    have hn := hna y.2.2.1.toNat (by show _ < List.length g.2.2.2.2.1; omega)
    simp only [k]
    by_cases he : (gx (arrs g) y.2.2.1.toNat dArray).2.2.1 = (gx (arrs g) y.2.2.1.toNat dArray).2.2.2
    · refine ⟨?_, by simp [he]; exact nf_cr (Int.le_refl _)⟩
      have he' : (gx g.2.2.2.2.1 y.2.2.1.toNat dArray).2.2.1 = (gx g.2.2.2.2.1 y.2.2.1.toNat dArray).2.2.2 := he
      have f0 := f71_0 hn.1 hn.2
      rw [he] at f0
      simp [inRI u1 u2', ask_true, he, he']
      exact f0
    · have he' : ¬ (gx g.2.2.2.2.1 y.2.2.1.toNat dArray).2.2.1 = (gx g.2.2.2.2.1 y.2.2.1.toNat dArray).2.2.2 := he
      refine ⟨?_, by simp [he]; exact all_cr⟩
      simp [inRI u1 u2', ask_true, he, he', f71_1]
end Go.U
end
section
set_option maxRecDepth 20000
namespace Go.U
open Go
structure Outs (g : TGraph) (s : TMods) (n : Nat) (out : List TCongr) : Prop where
 len : (out.length : Int) = g.2.2.1
 sc : ∀ k, k < (scs g).length → gx out k dCongr = gx s.2.1 k dCongr
 df : ∀ j, j < n → isD (at' g j) = true → gx out (at' g j).2.1.toNat dCongr = opv g s (at' g j) (fun x => gx out x.toNat dCongr) ∧ CR (gx out (at' g j).2.1.toNat dCongr)
theorem gx_set {α : Type} {l : List α} {i j : Nat} {d x : α} (h : i < l.length) : gx (l.set i x) j d = if i = j then x else gx l j d := by
 simp only [gx, List.getD, List.getElem?_set]
 by_cases e : i = j
 · subst e; simp [h]
 · simp [e]
theorem opv_congr {g : TGraph} {s : TMods} {y : TInstr} {v w : Int → TCongr} (hd : isD y = true) (h : Ops y fun x => v x = w x) : opv g s y v = opv g s y w := by
 obtain ⟨d1, d2⟩ := isD_true.1 hd
 have hc : y.1 = 1 ∨ y.1 = 2 ∨ y.1 = 3 ∨ y.1 = 4 ∨ y.1 = 5 ∨ y.1 = 6 ∨ y.1 = 7 ∨ y.1 = 8 ∨ y.1 = 9 ∨ y.1 = 10 ∨ y.1 = 11 ∨ y.1 = 12 := by omega
 unfold opv
 rcases hc with k | k | k | k | k | k | k | k | k | k | k | k
 · simp [k]
 · have := h.1 (.inl k); simp [k, this]
 · have := h.1 (.inr k); simp [k, this]
 · obtain ⟨a, b⟩ := h.2 (by omega); simp [k, a, b]
 · obtain ⟨a, b⟩ := h.2 (by omega); simp [k, a, b]
 · obtain ⟨a, b⟩ := h.2 (by omega); simp [k, a, b]
 · obtain ⟨a, b⟩ := h.2 (by omega); simp [k, a, b]
 · obtain ⟨a, b⟩ := h.2 (by omega); simp [k, a, b]
 · obtain ⟨a, b⟩ := h.2 (by omega); simp [k, a, b]
 · obtain ⟨a, b⟩ := h.2 (by omega); simp [k, a, b]
 · simp [k]
 · simp [k]
theorem Ops.imp {y : TInstr} {P Q : Int → Prop} (h : Ops y P) (hPQ : ∀ x, P x → Q x) : Ops y Q :=
 ⟨fun k => hPQ _ (h.1 k), fun k => ⟨hPQ _ (h.2 k).1, hPQ _ (h.2 k).2⟩⟩
section
variable {g : TGraph} {D : List Int} {s : TMods}
theorem use_cases (hG : FitG g D) {i : Nat} {x : Int} (h : Use g D i x) : 0 ≤ x ∧ x < g.2.2.1 ∧ (x < ((scs g).length : Int) ∨ ∃ j, j < i ∧ j < g.1.length ∧ isD (at' g j) = true ∧ (at' g j).2.1 = x) := by
  obtain ⟨h1, h2, h3⟩ := h
  refine ⟨h1, h2, ?_⟩
  rcases Int.lt_or_le x ((scs g).length : Int) with h4 | h4
  · exact .inl h4
  · have h5 := h3 h4
    have hr := hG.defs.regs
    obtain ⟨k, hk⟩ := Int.eq_ofNat_of_zero_le (show 0 ≤ x - ((scs g).length : Int) by omega)
    obtain ⟨j, d1, d2, d3, d4⟩ := hG.defs.dn k (by omega)
    rw [hk, Int.toNat_natCast, gx_of d1] at h5
    exact .inr ⟨j, by omega, d2, d3, by omega⟩
theorem def_inj (hG : FitG g D) {i j : Nat} (hi : i < g.1.length) (hj : j < g.1.length) (di : isD (at' g i) = true) (dj : isD (at' g j) = true) (e : (at' g i).2.1 = (at' g j).2.1) : i = j := by
 obtain ⟨k, a1, a2⟩ := hG.defs.up i hi di
 obtain ⟨k', b1, b2⟩ := hG.defs.up j hj dj
 have : k = k' := by omega
 subst this
 rw [a2] at b2; injection b2 with b2; omega
theorem def_reg (hG : FitG g D) {i : Nat} (hi : i < g.1.length) (di : isD (at' g i) = true) : ((scs g).length : Int) ≤ (at' g i).2.1 ∧ (at' g i).2.1 < g.2.2.1 := by
 obtain ⟨k, a1, a2⟩ := hG.defs.up i hi di
 have hk : k < D.length := by rcases Nat.lt_or_ge k D.length with h | h; exact h; rw [List.getElem?_eq_none h] at a2; cases a2
 have := hG.defs.regs
 omega
theorem outs_use (hG : FitG g D) (hs : FitS g s) {n : Nat} {out : List TCongr} (ho : Outs g s n out) {i : Nat} (hi : i ≤ n) {x : Int} (h : Use g D i x) : 0 ≤ x ∧ x < (out.length : Int) ∧ CR (gx out x.toNat dCongr) := by
 obtain ⟨h1, h2, h3⟩ := use_cases hG h
 refine ⟨h1, by rw [ho.len]; exact h2, ?_⟩
 rcases h3 with h3 | ⟨j, j1, j2, j3, j4⟩
 · rw [ho.sc x.toNat (by omega)]; exact hs.sc _ (by rw [hs.sl]; omega)
 · rw [← j4]; exact (ho.df j (by omega) j3).2
theorem cpy_gx {a b : List TCongr} (h : a.length ≤ b.length) (k : Nat) (hk : k < a.length) : gx (cpyL 0 (min a.length b.length) a b) k dCongr = gx a k dCongr := by
 have e : min a.length b.length = a.length := Nat.min_eq_left h
 simp only [cpyL, gx, List.getD, e, List.take_zero, List.nil_append, Nat.zero_add, List.take_of_length_le (Nat.le_refl _)]
 rw [List.getElem?_append_left hk]
theorem cpy_len {a b : List TCongr} (h : a.length ≤ b.length) : (cpyL 0 (min a.length b.length) a b).length = b.length := by
 have e : min a.length b.length = a.length := Nat.min_eq_left h
 simp only [cpyL, e, List.take_zero, List.nil_append, Nat.zero_add, List.take_of_length_le (Nat.le_refl _), List.length_append, List.length_drop]
 omega
theorem f48_eq (hG : FitG g D) (hs : FitS g s) (hn : NumsG g) : ∃ out, f48_m (g, s) = some out ∧ Outs g s g.1.length out := by
  have hr := hG.defs.regs
  have hl := hG.defs.len
  have hS := hG.S
  unfold f48_m f48_c
  have b1 : (decide (0 ≤ g.2.2.1) && decide (g.2.2.1 ≤ g.2.2.1) && decide (24 * g.2.2.1 ≤ 70368744177664) && decide (g.2.2.1 < 9223372036854775808)) = true := by
    rw [decide_eq_true (show 0 ≤ g.2.2.1 by omega), decide_eq_true (Int.le_refl _), decide_eq_true (show 24 * g.2.2.1 ≤ 70368744177664 by omega), decide_eq_true (show g.2.2.1 < 9223372036854775808 by omega)]; rfl
  simp only [b1, ask_true]
  obtain ⟨Z, hZ⟩ : ∃ Z, (List.replicate (Int.toNat g.2.2.1) ((false, (0, 0)) : TCongr)) = Z := ⟨_, rfl⟩
  have hZl : (Z.length : Int) = g.2.2.1 := by rw [← hZ, List.length_replicate]; omega
  rw [hZ]
  have hle : s.2.1.length ≤ Z.length := by rw [hs.sl]; omega
  obtain ⟨e, h1, h2⟩ := loopAll_of (step := f48_l4.m (g, s)) (t := (0, cpyL 0 (min (List.length s.2.1) Z.length) s.2.1 Z)) (fun t => ∃ n : Nat, n ≤ g.1.length ∧ t.1 = (n : Int) ∧ Outs g s n t.2) (fun t => g.1.length - t.1.toNat) (fun e => Outs g s g.1.length e)
    ⟨0, Nat.zero_le _, rfl, by rw [cpy_len hle]; exact hZl, fun k hk => cpy_gx hle k (by rw [hs.sl]; exact hk), fun j h => absurd h (Nat.not_lt_zero _)⟩ (by have := hG.N; simp only; omega) (fun t ⟨n, hnl, ht, hI⟩ => by
      obtain ⟨ti, out⟩ := t
      simp only at ht hI
      subst ht
      have hN := hG.N
      simp only [LD.m, f48_l4, nt]
      have w : wi64 ((n : Int) + 1) = (n : Int) + 1 := wi64_of (by omega) (by omega)
      by_cases h : n < g.1.length
      · have h' : (n : Int) < (g.1.length : Int) := by omega
        obtain ⟨y, hy⟩ : ∃ y, gx g.1 n dInstr = y := ⟨_, rfl⟩
        have hat : at' g n = y := hy
        simp only [h', decide_true, cond_true, inR h, ask_true, Int.toNat_natCast, hy, w]
        have skip : isD y = false → Outs g s (n + 1) out := fun hd => ⟨hI.len, hI.sc, fun j hj hdj => by
          by_cases e : j = n
          · subst e; rw [hat, hd] at hdj; cases hdj
          · exact hI.df j (by omega) hdj⟩
        by_cases k1 : 1 ≤ y.1
        · by_cases k2 : y.1 ≤ 12
          · have hd : isD y = true := isD_true.2 ⟨k1, k2⟩
            simp only [k1, k2, decide_true, cond_true]
            have good := hG.good n h
            rw [← hat] at hd
            have hops : Ops y fun x => 0 ≤ x ∧ x < (out.length : Int) ∧ CR (gx out x.toNat dCongr) := by
              refine uses_ops fun x hx => outs_use hG hs hI (Nat.le_refl n) (good.use x (by rw [hat]; exact hx))
            obtain ⟨q1, q2⟩ := f95_eq (g := g) (s := s) (y := y) (out := out) (by rw [← hat]; exact hd) (by rw [← hat]; exact hn.k n h) hn.a (by rw [← hat]; exact good.idx) hs hops
            rw [q1]
            simp only [Option.bind_some]
            obtain ⟨r1, r2⟩ := def_reg hG h hd
            rw [hat] at r1 r2
            have hlen := hI.len
            rw [inRI (by omega) (by omega), ask_true]
            refine .inl ⟨_, rfl, ⟨n + 1, h, rfl, by simpa using hlen, fun k hk => ?_, fun j hj hdj => ?_⟩, by simp only; omega⟩
            · rw [gx_set (by omega), if_neg (by omega)]; exact hI.sc k hk
            · have hjN : j < g.1.length := by omega
              have hcongr : opv g s (at' g j) (fun x => gx out x.toNat dCongr) = opv g s (at' g j) (fun x => gx (out.set y.2.1.toNat (opv g s y fun x => gx out x.toNat dCongr)) x.toNat dCongr) := by
                refine opv_congr hdj (uses_ops fun x hx => ?_)
                have hu := (hG.good j hjN).use x hx
                obtain ⟨u1, u2, u3⟩ := use_cases hG hu
                rw [gx_set (by omega)]
                rw [if_neg]
                intro e
                have e' : y.2.1 = x := by omega
                rcases u3 with u3 | ⟨j', j1, j2, j3, j4⟩
                · omega
                · have := def_inj hG h j2 hd j3 (by rw [hat, e', j4])
                  omega
              by_cases e : j = n
              · subst e
                rw [hat] at hcongr ⊢
                rw [← hcongr, gx_set (by omega), if_pos rfl]
                exact ⟨rfl, q2⟩
              · have hne : ¬ y.2.1.toNat = (at' g j).2.1.toNat := fun e2 => by
                  obtain ⟨r3, r4⟩ := def_reg hG hjN hdj
                  have := def_inj hG h hjN hd hdj (by rw [hat]; omega)
                  exact e this.symm
                rw [← hcongr, gx_set (by omega), if_neg hne]
                exact hI.df j (by omega) hdj
          · simp only [k1, k2, decide_true, decide_false, cond_true, cond_false]
            exact .inl ⟨_, rfl, ⟨n + 1, h, rfl, skip (by simp [isD]; omega)⟩, by simp only; omega⟩
        · simp only [k1, decide_false, cond_false]
          exact .inl ⟨_, rfl, ⟨n + 1, h, rfl, skip (by simp [isD]; omega)⟩, by simp only; omega⟩
      · have h' : ¬ (n : Int) < (g.1.length : Int) := by omega
        simp only [h', decide_false, cond_false]
        have : n = g.1.length := by omega
        exact .inr ⟨_, rfl, by rw [← this]; exact hI⟩)
  rw [h1]
  exact ⟨e, rfl, h2⟩
end
end Go.U
end
section
set_option maxRecDepth 20000
namespace Go.U
open Go
section
variable {α : Type}
abbrev hasI (i : Int) (l : List (Int × α)) : Bool := hasT (k := (.int .i64)) i l
abbrev getI (i : Int) (d : α) (l : List (Int × α)) : α := getT (k := (.int .i64)) i d l
abbrev setI (i : Int) (x : α) (l : List (Int × α)) : List (Int × α) := setT (k := (.int .i64)) i x l
theorem has_nil (i : Int) : hasI i ([] : List (Int × α)) = false := rfl
theorem has_cons (i j : Int) (x : α) (l : List (Int × α)) : hasI i ((j, x) :: l) = (decide (i = j) || hasI i l) := rfl
theorem get_cons (i j : Int) (d x : α) (l : List (Int × α)) : getI i d ((j, x) :: l) = cond (decide (i = j)) x (getI i d l) := rfl
theorem set_nil (i : Int) (x : α) : setI i x [] = [(i, x)] := rfl
theorem set_cons (i j : Int) (x y : α) (l : List (Int × α)) : setI i x ((j, y) :: l) = cond (decide (i = j)) ((i, x) :: l) ((j, y) :: setI i x l) := rfl
theorem has_set (i j : Int) (x : α) : ∀ l : List (Int × α), hasI j (setI i x l) = (decide (j = i) || hasI j l)
  | [] => by rw [set_nil, has_cons]
  | (k, y) :: l => by
    rw [set_cons]
    by_cases h : i = k
    · subst h; simp only [decide_true, cond_true, has_cons]
      cases decide (j = i) <;> rfl
    · simp only [h, decide_false, cond_false, has_cons, has_set i j x l]
      cases decide (j = i) <;> cases decide (j = k) <;> rfl
theorem get_set (i j : Int) (d x : α) : ∀ l : List (Int × α), getI j d (setI i x l) = if j = i then x else getI j d l
  | [] => by
    rw [set_nil, get_cons]
    by_cases h : j = i <;> simp [h]
  | (k, y) :: l => by
    rw [set_cons]
    by_cases h : i = k
    · subst h; simp only [decide_true, cond_true, get_cons]
      by_cases e : j = i <;> simp [e]
    · simp only [h, decide_false, cond_false, get_cons, get_set i j d x l]
      by_cases e : j = k
      · subst e
        have : ¬ j = i := fun e2 => h e2.symm
        simp [this]
      · simp [e]
end
theorem f46_eq {g : TGraph} {D : List Int} {s : TMods} (hG : FitG g D) : ∃ T : List (Int × TInstr), f46_m (g, s) = some (T, []) ∧ ∀ j, j < g.1.length → isD (at' g j) = true → hasI (at' g j).2.1 T = true ∧ getI (at' g j).2.1 dInstr T = at' g j := by
  unfold f46_m f46_c
  have hN := hG.N
  obtain ⟨e, h1, h2⟩ := loopAll_of (step := f46_l3.m (g.1, (nt (List.length g.1)), (g, s), ([] : List (Int × TCongr)))) (t := (0, ([] : List (Int × TInstr)))) (fun t => ∃ n : Nat, n ≤ g.1.length ∧ t.1 = (n : Int) ∧ ∀ j, j < n → isD (at' g j) = true → hasI (at' g j).2.1 t.2 = true ∧ getI (at' g j).2.1 dInstr t.2 = at' g j) (fun t => g.1.length - t.1.toNat)
    (fun e => ∀ j, j < g.1.length → isD (at' g j) = true → hasI (at' g j).2.1 e = true ∧ getI (at' g j).2.1 dInstr e = at' g j) ⟨0, Nat.zero_le _, rfl, fun j h => absurd h (Nat.not_lt_zero _)⟩ (by simp only; omega) (fun t ⟨n, hn, ht, hI⟩ => by
      obtain ⟨ti, T⟩ := t
      simp only at ht hI
      subst ht
      simp only [LD.m, f46_l3, nt]
      have w : wi64 ((n : Int) + 1) = (n : Int) + 1 := wi64_of (by omega) (by omega)
      by_cases h : n < g.1.length
      · have h' : (n : Int) < (g.1.length : Int) := by omega
        obtain ⟨y, hy⟩ : ∃ y, gx g.1 n dInstr = y := ⟨_, rfl⟩
        have hat : at' g n = y := hy
        simp only [h', decide_true, cond_true, inR h, ask_true, Int.toNat_natCast, hy, w]
        have skip : isD y = false → ∀ j, j < n + 1 → isD (at' g j) = true → hasI (at' g j).2.1 T = true ∧ getI (at' g j).2.1 dInstr T = at' g j := fun hd j hj hdj => by
          by_cases e : j = n
          · subst e; rw [hat, hd] at hdj; cases hdj
          · exact hI j (by omega) hdj
        by_cases k1 : 1 ≤ y.1
        · by_cases k2 : y.1 ≤ 12
          · have hd : isD y = true := isD_true.2 ⟨k1, k2⟩
            rw [← hat] at hd
            simp only [k1, k2, decide_true, cond_true]
            refine .inl ⟨_, rfl, ⟨n + 1, h, rfl, fun j hj hdj => ?_⟩, by simp only; omega⟩
            show hasI (at' g j).2.1 (setI y.2.1 y T) = true ∧ getI (at' g j).2.1 dInstr (setI y.2.1 y T) = at' g j
            rw [has_set, get_set]
            by_cases e : j = n
            · subst e; rw [hat]; simp
            · have hne : ¬ (at' g j).2.1 = y.2.1 := fun e2 => e (def_inj hG (by omega) h hdj hd (by rw [hat]; exact e2))
              obtain ⟨a, b⟩ := hI j (by omega) hdj
              rw [if_neg hne, a, b]; simp
          · simp only [k1, k2, decide_true, decide_false, cond_true, cond_false]
            exact .inl ⟨_, rfl, ⟨n + 1, h, rfl, skip (by simp [isD]; omega)⟩, by simp only; omega⟩
        · simp only [k1, decide_false, cond_false]
          exact .inl ⟨_, rfl, ⟨n + 1, h, rfl, skip (by simp [isD]; omega)⟩, by simp only; omega⟩
      · have h' : ¬ (n : Int) < (g.1.length : Int) := by omega
        simp only [h', decide_false, cond_false]
        have : n = g.1.length := by omega
        exact .inr ⟨_, rfl, by rw [← this]; exact hI⟩)
  rw [h1]
  exact ⟨e, rfl, h2⟩
end Go.U
end
section
set_option maxRecDepth 20000
namespace Go.U
open Go
def MemoOK (out : List TCongr) (M : List (Int × TCongr)) : Prop := ∀ x, hasI x M = true → getI x dCongr M = gx out x.toNat dCongr
section
variable {g : TGraph} {D : List Int} {s : TMods} {out : List TCongr} {T : List (Int × TInstr)}
def ToldR (R : Rec47) (g : TGraph) (s : TMods) (T : List (Int × TInstr)) (out : List TCongr) (x : Int) : Prop :=
 (∀ M, MemoOK out M → ∃ M', R.m (x, g, s, T, M) = some (gx out x.toNat dCongr, M') ∧ MemoOK out M') ∧ CR (gx out x.toNat dCongr)
theorem f94_eq (R : Rec47) {y : TInstr} (hd : isD y = true) (hi : Idx g y) (hs : FitS g s) (ho : Ops y (ToldR R g s T out)) {M : List (Int × TCongr)} (hM : MemoOK out M) :
    ∃ M', @f94_m R (y, g, s, T, M) = some (opv g s y (fun x => gx out x.toNat dCongr), M') ∧ MemoOK out M' := by
  obtain ⟨d1, d2⟩ := isD_true.1 hd
  have hc : y.1 = 1 ∨ y.1 = 2 ∨ y.1 = 3 ∨ y.1 = 4 ∨ y.1 = 5 ∨ y.1 = 6 ∨ y.1 = 7 ∨ y.1 = 8 ∨ y.1 = 9 ∨ y.1 = 10 ∨ y.1 = 11 ∨ y.1 = 12 := by omega
  unfold f94_m f94_c opv
  rcases hc with k | k | k | k | k | k | k | k | k | k | k | k
  · refine ⟨M, ?_, hM⟩
    simp [k, f70_eq]
  · obtain ⟨u, cu⟩ := ho.1 (.inl k)
    obtain ⟨M1, a1, a2⟩ := u M hM
    refine ⟨M1, ?_, a2⟩
    simp [k, a1, f85_eq cu]
  · obtain ⟨u, cu⟩ := ho.1 (.inr k)
    obtain ⟨M1, a1, a2⟩ := u M hM
    refine ⟨M1, ?_, a2⟩
    simp [k, a1, f87_eq cu]
  · obtain ⟨⟨u, cu⟩, v, cv⟩ := ho.2 (by omega)
    obtain ⟨M1, a1, a2⟩ := u M hM
    obtain ⟨M2, b1, b2⟩ := v M1 a2
    refine ⟨M2, ?_, b2⟩
    simp [k, a1, b1, (add_eq cu cv).1]
  · obtain ⟨⟨u, cu⟩, v, cv⟩ := ho.2 (by omega)
    obtain ⟨M1, a1, a2⟩ := u M hM
    obtain ⟨M2, b1, b2⟩ := v M1 a2
    refine ⟨M2, ?_, b2⟩
    simp [k, a1, b1, (sub_eq cu cv).1]
  · obtain ⟨⟨u, cu⟩, v, cv⟩ := ho.2 (by omega)
    obtain ⟨M1, a1, a2⟩ := u M hM
    obtain ⟨M2, b1, b2⟩ := v M1 a2
    refine ⟨M2, ?_, b2⟩
    simp [k, a1, b1, (mul_eq cu cv).1]
  · obtain ⟨⟨u, cu⟩, v, cv⟩ := ho.2 (by omega)
    obtain ⟨M1, a1, a2⟩ := u M hM
    obtain ⟨M2, b1, b2⟩ := v M1 a2
    refine ⟨M2, ?_, b2⟩
    simp [k, a1, b1, (div_eq cu cv).1]
  · obtain ⟨⟨u, cu⟩, v, cv⟩ := ho.2 (by omega)
    obtain ⟨M1, a1, a2⟩ := u M hM
    obtain ⟨M2, b1, b2⟩ := v M1 a2
    refine ⟨M2, ?_, b2⟩
    simp [k, a1, b1, (mod_eq cu cv).1]
  · obtain ⟨⟨u, cu⟩, v, cv⟩ := ho.2 (by omega)
    obtain ⟨M1, a1, a2⟩ := u M hM
    obtain ⟨M2, b1, b2⟩ := v M1 a2
    refine ⟨M2, ?_, b2⟩
    simp [k, a1, b1, (jc_eq cu cv).1]
  · obtain ⟨⟨u, cu⟩, v, cv⟩ := ho.2 (by omega)
    obtain ⟨M1, a1, a2⟩ := u M hM
    obtain ⟨M2, b1, b2⟩ := v M1 a2
    refine ⟨M2, ?_, b2⟩
    simp [k, a1, b1, (jc_eq cu cv).1]
  · obtain ⟨u1, u2⟩ := hi.k11 (.inl k)
    have u2' : y.2.2.1 < (s.2.2.length : Int) := by rw [hs.il]; exact u2
    refine ⟨M, ?_, hM⟩
    simp [k, inRI u1 u2', ask_true]
  · obtain ⟨u1, u2⟩ := hi.k12 k
    have u2' : y.2.2.1 < (List.length g.2.2.2.2.1 : Int) := u2
    refine ⟨M, ?_, hM⟩
    by_cases he : (gx (arrs g) y.2.2.1.toNat dArray).2.2.1 = (gx (arrs g) y.2.2.1.toNat dArray).2.2.2
    · have he' : (gx g.2.2.2.2.1 y.2.2.1.toNat dArray).2.2.1 = (gx g.2.2.2.2.1 y.2.2.1.toNat dArray).2.2.2 := he
      simp [k, inRI u1 u2', ask_true, he, he', f70_eq]
    · have he' : ¬ (gx g.2.2.2.2.1 y.2.2.1.toNat dArray).2.2.1 = (gx g.2.2.2.2.1 y.2.2.1.toNat dArray).2.2.2 := he
      simp [k, inRI u1 u2', ask_true, he, he', f134_eq]
theorem ev_eq (hG : FitG g D) (hs : FitS g s) (hb : s.1 = true) (ho : Outs g s g.1.length out) (hT : ∀ j, j < g.1.length → isD (at' g j) = true → hasI (at' g j).2.1 T = true ∧ getI (at' g j).2.1 dInstr T = at' g j) :
    ∀ (f : Nat) (x : Int) (M : List (Int × TCongr)), 0 < f → 0 ≤ x → x < g.2.2.1 → (x < ((scs g).length : Int) ∨ ∃ j, j + 1 < f ∧ j < g.1.length ∧ isD (at' g j) = true ∧ (at' g j).2.1 = x) → MemoOK out M →
      ∃ M', f47_ev f (x, g, s, T, M) = some (gx out x.toNat dCongr, M') ∧ MemoOK out M'
  | 0, _, _, h, _, _, _, _ => absurd h (Nat.lt_irrefl _)
  | f + 1, x, M, _, h0, h1, hx, hM => by
    show ∃ M', @f47_m ⟨f47_ev f⟩ (x, g, s, T, M) = _ ∧ _
    unfold f47_m f47_c
    simp only [hb, Bool.not_true, cond_false, nt]
    by_cases hS : x < ((scs g).length : Int)
    · have hS' : x < (List.length g.2.2.2.2.2.1 : Int) := hS
      have hl : x < (s.2.1.length : Int) := by rw [hs.sl]; exact hS
      simp only [hS', decide_true, cond_true, inRI h0 hl, ask_true]
      exact ⟨M, by rw [ho.sc x.toNat (by omega)], hM⟩
    · have hS' : ¬ x < (List.length g.2.2.2.2.2.1 : Int) := hS
      simp only [hS', decide_false, cond_false]
      cases hh : hasI x M
      · rcases hx with hx | ⟨j, j1, j2, j3, j4⟩
        · exact absurd hx hS
        · obtain ⟨t1, t2⟩ := hT j j2 j3
          rw [j4] at t1 t2
          have hh' : hasT (k := (.int .i64)) x M = false := hh
          have t1' : hasT (k := (.int .i64)) x T = true := t1
          have t2' : getT (k := (.int .i64)) x dInstr T = at' g j := t2
          simp only [hh', t1', t2', cond_false, cond_true]
          have good := hG.good j j2
          have hops : Ops (at' g j) (ToldR ⟨f47_ev f⟩ g s T out) := uses_ops fun z hz => by
            have hu := good.use z hz
            obtain ⟨z1, z2, z3⟩ := use_cases hG hu
            refine ⟨fun M hM => ev_eq hG hs hb ho hT f z M (by omega) z1 z2 ?_ hM, (outs_use hG hs ho (Nat.le_of_lt j2) hu).2.2⟩
            rcases z3 with z3 | ⟨j', w1, w2, w3, w4⟩
            · exact .inl z3
            · exact .inr ⟨j', by omega, w2, w3, w4⟩
          obtain ⟨M', a1, a2⟩ := f94_eq ⟨f47_ev f⟩ j3 good.idx hs hops hM
          rw [a1]
          simp only [Option.bind_some]
          have e := (ho.df j j2 j3).1
          rw [j4] at e
          rw [← e]
          refine ⟨_, rfl, fun z hz => ?_⟩
          have hz' : hasI z (setI x (gx out x.toNat dCongr) M') = true := hz
          show getI z dCongr (setI x (gx out x.toNat dCongr) M') = _
          rw [get_set]
          rw [has_set] at hz'
          by_cases e2 : z = x
          · rw [if_pos e2, e2]
          · rw [if_neg e2]
            simp [e2] at hz'
            exact a2 z hz'
      · have hh' : hasT (k := (.int .i64)) x M = true := hh
        simp only [hh', cond_true]
        have e : getT (k := (.int .i64)) x dCongr M = gx out x.toNat dCongr := hM x hh
        rw [e]
        exact ⟨M, rfl, hM⟩
theorem f13_eq (hG : FitG g D) (hs : FitS g s) (hb : s.1 = true) (ho : Outs g s g.1.length out) {x : Int} (h0 : 0 ≤ x) (h1 : x < g.2.2.1) : f13_m (g, s, x) = some (gx out x.toNat dCongr) := by
  obtain ⟨T, t1, t2⟩ := f46_eq (s := s) hG
  unfold f13_m f13_c
  rw [t1]
  simp only [Option.bind_some]
  have hN := hG.N
  have hx : x < ((scs g).length : Int) ∨ ∃ j, j + 1 < f47_fuel ∧ j < g.1.length ∧ isD (at' g j) = true ∧ (at' g j).2.1 = x := by
    rcases Int.lt_or_le x ((scs g).length : Int) with h4 | h4
    · exact .inl h4
    · have hr := hG.defs.regs
      obtain ⟨k, hk⟩ := Int.eq_ofNat_of_zero_le (show 0 ≤ x - ((scs g).length : Int) by omega)
      obtain ⟨j, d1, d2, d3, d4⟩ := hG.defs.dn k (by omega)
      exact .inr ⟨j, by unfold f47_fuel; omega, d2, d3, by omega⟩
  obtain ⟨M', a1, a2⟩ := ev_eq hG hs hb ho t2 f47_fuel x [] (by unfold f47_fuel; omega) h0 h1 hx (fun z hz => by cases hz)
  have a1' : Rec47.m (x, g, s, T, ([] : List (Int × TCongr))) = some (gx out x.toNat dCongr, M') := a1
  rw [a1']; rfl
theorem f13_no (hG : FitG g D) (hb : s.1 = false) (x : Int) : f13_m (g, s, x) = some (true, (0, 0)) := by
 obtain ⟨T, t1, t2⟩ := f46_eq (s := s) hG
 unfold f13_m f13_c
 rw [t1]
 simp only [Option.bind_some]
 have e : ∀ f M, 0 < f → f47_ev f (x, g, s, T, M) = some ((true, (0, 0)), M) := fun f M hf => by
  cases f with
  | zero => cases hf
  | succ f =>
   show @f47_m ⟨f47_ev f⟩ (x, g, s, T, M) = _
   unfold f47_m f47_c
   simp only [hb, Bool.not_false, cond_true]
 have e' : Rec47.m (x, g, s, T, ([] : List (Int × TCongr))) = some ((true, (0, 0)), []) := e f47_fuel [] (by unfold f47_fuel; omega)
 rw [e']; rfl
theorem f14_eq (hG : FitG g D) (hs : FitS g s) (hb : s.1 = true) (hn : NumsG g) : ∃ out, Outs g s g.1.length out ∧ ∀ x, 0 ≤ x → x < g.2.2.1 → f14_m (g, s, x) = some (gx out x.toNat dCongr) := by
 obtain ⟨out, h1, h2⟩ := f48_eq hG hs hn
 refine ⟨out, h2, fun x h0 hx => ?_⟩
 unfold f14_m f14_c
 simp only [hb, Bool.not_true, cond_false]
 rw [h1]
 simp only [Option.bind_some]
 rw [inRI h0 (by rw [h2.len]; exact hx), ask_true]
theorem f14_no (hb : s.1 = false) (x : Int) : f14_m (g, s, x) = some (true, (0, 0)) := by
 unfold f14_m f14_c
 simp only [hb, Bool.not_false, cond_true]
end
end Go.U
end
section
set_option maxRecDepth 20000
namespace Go.U
open Go
theorem okI64 {n : Int} (h : okC (.int .i64) n) : I64 n := by
 have e1 : IntKind.i64.min = -9223372036854775808 := by decide
 have e2 : IntKind.i64.max = 9223372036854775807 := by decide
 obtain ⟨h1, h2⟩ := h
 rw [e1] at h1; rw [e2] at h2
 exact ⟨h1, h2⟩
theorem maxLen_eq : maxLen = 9223372036854775807 := by decide
theorem mem_at {g : TGraph} {j : Nat} (h : j < g.1.length) : at' g j ∈ g.1 := List.mem_of_getElem? (gx_lt (d := dInstr) h)
theorem lens_of {g : TGraph} (h : okC cGraph g) : Lens g ∧ NumsG g := by
  obtain ⟨⟨⟨hi, _⟩, hi2⟩, _, _, _, ⟨⟨ha, _⟩, ha2⟩, ⟨⟨hs, _⟩, _⟩, ⟨⟨hn, _⟩, _⟩, ⟨hl, _⟩, _⟩ := h
  rw [maxLen_eq] at hi ha hs hn hl
  refine ⟨⟨hi, hs, ha, hn, hl, fun j hj => ?_⟩, ⟨fun j hj => ?_, fun j hj => ?_⟩⟩
  · obtain ⟨_, h2, _⟩ := hi2 _ (mem_at hj)
    exact okI64 h2
  · obtain ⟨_, _, _, _, h5, _⟩ := hi2 _ (mem_at hj)
    exact okI64 h5
  · obtain ⟨_, _, h3, _⟩ := ha2 _ (List.mem_of_getElem? (gx_lt (d := dArray) hj))
    exact okI64 h3
theorem lensM_of {s : TMods} (h : okC cMods s) : LensM s := by
 obtain ⟨_, ⟨⟨ha, _⟩, ha2⟩, ⟨⟨hb, _⟩, hb2⟩⟩ := h
 rw [maxLen_eq] at ha hb
 exact ⟨ha, hb, fun c hc => ⟨okI64 (ha2 c hc).2.1, okI64 (ha2 c hc).2.2⟩, fun c hc => ⟨okI64 (hb2 c hc).2.1, okI64 (hb2 c hc).2.2⟩⟩
theorem awake : f12_m () = some true := by kernel_rfl
theorem eqc (c : TCongr) : ((c.1 == c.1) && ((decide (c.2.1 = c.2.1)) && ((decide (c.2.2 = c.2.2)) && true))) = true := by simp
theorem f3l4_eq {g : TGraph} {s : TMods} {D : List Int} (hG : FitG g D) (h : ∀ x, 0 ≤ x → x < g.2.2.1 → ∃ c, f13_m (g, s, x) = some c ∧ f14_m (g, s, x) = some c) : loopAll (f3_l4.m (g, s)) 0 = some (.inr ()) := by
 have hr := hG.defs.regs
 have hl := hG.defs.len
 have hS := hG.S
 obtain ⟨R, hR⟩ : ∃ R : Nat, g.2.2.1 = (R : Int) := ⟨_, hr⟩
 obtain ⟨e, h1, h2⟩ := each_tot2 (n := R) (step := f3_l4.m (g, s)) (by omega) (fun _ => True) (fun e => e = .inr ()) trivial (fun i hi _ => by
  have h' : (i : Int) < (R : Int) := by omega
  simp only [LD.m, f3_l4, hR, h', decide_true, cond_true]
  obtain ⟨c, q1, q2⟩ := h (i : Int) (by omega) (by omega)
  rw [q1, q2]
  simp only [Option.bind_some]
  have e1 : (c.1 == c.1 && (decide True && (decide True && true))) = true := by simp
  rw [e1]
  exact gd_ki trivial) (fun _ => by
  simp only [LD.m, f3_l4, hR, Int.lt_irrefl, decide_false, cond_false]
  exact ⟨_, rfl, rfl⟩)
 rw [h1, h2]
theorem math3 (g : TGraph) (s : TMods) (hg : okC cGraph g) (hs : okC cMods s) : f3_m (g, s) = some true := by
  obtain ⟨hL, hn⟩ := lens_of hg
  have hM := lensM_of hs
  unfold f3_m f3_c
  obtain ⟨r1, q1, q2⟩ := f10_eq hL
  rw [q1]
  simp only [Option.bind_some]
  cases r1
  · simp only [Bool.not_false, cond_true]; rw [awake]; rfl
  · obtain ⟨D, hG⟩ := q2 rfl
    simp only [Bool.not_true, cond_false]
    obtain ⟨r3, q3, q4⟩ := f11_eq (g := g) hM
    rw [q3]
    simp only [Option.bind_some]
    cases r3
    · simp only [Bool.not_false, cond_true]; rw [awake]; rfl
    · simp only [Bool.not_true, cond_false]
      have main : loopAll (f3_l4.m (g, s)) 0 = some (.inr ()) := by
        refine f3l4_eq hG fun x h0 h1 => ?_
        cases hb : s.1
        · exact ⟨_, f13_no hG hb x, f14_no hb x⟩
        · have hF := q4 rfl hb
          obtain ⟨out, o1, o2⟩ := f14_eq hG hF hb hn
          exact ⟨_, f13_eq hG hF hb o1 h0 h1, o2 x h0 h1⟩
      rw [main]
      simp only [Option.bind_some, Sum.elim_inr]
      rw [awake]; rfl
end Go.U
end
