import Derived.Test.YtmbpmgemhnholaaGreatDoorDt
set_option maxRecDepth 1000000
namespace Go.Ax
open Go Go.Proofs

theorem within_iff {a b c : Int} : Fn.within0 a b c = decide (b ≤ a ∧ a ≤ c) := by
  unfold Fn.within0
  rw [leI_eq, leI_eq, sel_eq]
  by_cases h : b ≤ a <;> by_cases g : a ≤ c <;> simp [h, g]
theorem out_iff {a b c : Int} : Fn.out0 a b c = !Fn.within0 a b c := by
  rw [within_iff]
  unfold Fn.out0
  rw [ltI_eq, ltI_eq, sel_eq]
  by_cases h : b ≤ a
  · by_cases g : a ≤ c
    · simp [h, g, Int.not_lt.2 h, Int.not_lt.2 g]
    · simp [h, g, Int.not_lt.2 h, Int.not_le.1 g]
  · simp [h, Int.not_le.1 h]
theorem check_eq (a b c d : Int) : Fn.check0 a b c d = Fn.checkr0 a b c d := by
  unfold Fn.check0 Fn.checkr0 Fn.noone0 Fn.nowhen0
  rw [out_iff, out_iff, out_iff, out_iff]
theorem check_zero {a b c d : Int} (h : Fn.checkr0 a b c d = 0) : (0 ≤ a ∧ a ≤ 31) ∧ (1 ≤ b ∧ b ≤ 4294967296) ∧ c ≠ a ∧ -1 ≤ c := by
  unfold Fn.checkr0 at h
  rw [within_iff, within_iff, within_iff] at h
  simp only [sel_eq] at h
  split at h
  · cases h
  rename_i h1
  split at h
  · cases h
  rename_i h2
  split at h
  · cases h
  rename_i h3
  split at h
  · cases h
  split at h
  · cases h
  rename_i h5
  rw [eqI_eq] at h5
  simp at h1 h2 h3 h5
  exact ⟨h1, h2, h5, h3.1⟩
theorem has_iff {a b c d e : Int} (hb : a ≠ 0 ∨ b ≠ 0 ∨ c ≠ 0) : Fn.has0 a b c d e = decide (a = d ∧ b ≤ e ∧ e ≤ c) := by
  unfold Fn.has0
  have hz : (!(eqI a 0 && (eqI b 0 && (eqI c 0 && true)))) = true := by
    rw [eqI_eq, eqI_eq, eqI_eq]
    rcases hb with h | h | h <;> simp [h]
  rw [hz, sel_true, eqI_eq, leI_eq, leI_eq, sel_eq, sel_eq]
  by_cases h1 : a = d <;> by_cases h2 : b ≤ e <;> by_cases h3 : e ≤ c <;> simp [h1, h2, h3]
theorem backed_eq {a b c d v h t : Int} (hh : h ≤ 9223372036854775807) : Fn.backed0 a b c d v h t = Fn.backedr0 a b c d v h t := by
  unfold Fn.backed0 Fn.backedr0
  rw [check_eq]
  by_cases hc : Fn.checkr0 a b c d = 0
  · obtain ⟨⟨a1, a2⟩, ⟨b1, b2⟩, c1, c2⟩ := check_zero hc
    rw [hc, show (!eqI (Int.ofNat 0) 0) = false from rfl, sel_false, sel_false]
    have e0 : Fn.has0 a b 9223372036854775807 v h = decide (a = v ∧ b ≤ h) := by
      rw [has_iff (a := a) (b := b) (c := 9223372036854775807) (Or.inr (Or.inr (by decide)))]
      exact decide_eq_decide.2 ⟨fun g => ⟨g.1, g.2.1⟩, fun g => ⟨g.1, g.2, hh⟩⟩
    have e1 : Fn.has0 a b t v h = decide (a = v ∧ b ≤ h ∧ h ≤ t) := has_iff (Or.inr (Or.inl (by omega)))
    have e2 : Fn.has0 c d b v h = decide (c = v ∧ d ≤ h ∧ h ≤ b) := has_iff (Or.inr (Or.inr (by omega)))
    rw [e0, e1, e2, within_iff]
    clear e0 e1 e2 hc hh
    rw [Bool.eq_iff_iff]
    simp only [ltI_eq, leI_eq, eqI_eq, sel_eq]
    by_cases t1 : t < 1 <;> by_cases g1 : c < 0 <;> by_cases g2 : v < 0 <;> simp [t1, g1, g2] <;> try omega
    all_goals (split <;> omega)
  · have : (!eqI (Int.ofNat (Fn.checkr0 a b c d)) 0) = true := by
      have e : eqI (Int.ofNat (Fn.checkr0 a b c d)) 0 = decide (Fn.checkr0 a b c d = 0) := eqI_nat _ 0
      rw [e, decide_eq_false hc]
      rfl
    rw [this, sel_true, sel_true]
end Go.Ax

