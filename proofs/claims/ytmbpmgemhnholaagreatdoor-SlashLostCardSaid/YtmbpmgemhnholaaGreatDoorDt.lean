import Derived.Test.YtmbpmgemhnholaaGreatDoorDs
set_option maxRecDepth 1000000
namespace Go.Ax
open Go Go.Proofs

theorem divB3_eq (c hi lo left i : Nat) : Fn.divB3 c hi lo left i = sel (eqI (Int.ofNat (left.div 9223372036854775808)) 1) (subW ((((Nat.mul 2 left).mod 18446744073709551616).add (Fn.divB0 hi lo i)).mod 18446744073709551616) c) (sel (leI (Int.ofNat c) (Int.ofNat ((((Nat.mul 2 left).mod 18446744073709551616).add (Fn.divB0 hi lo i)).mod 18446744073709551616))) (subW ((((Nat.mul 2 left).mod 18446744073709551616).add (Fn.divB0 hi lo i)).mod 18446744073709551616) c) ((((Nat.mul 2 left).mod 18446744073709551616).add (Fn.divB0 hi lo i)).mod 18446744073709551616)) := by
  unfold Fn.divB3 Fn.divB0
  cases ltI 63 (Int.ofNat i) with
  | true => simp only [sel_true]
  | false => simp only [sel_false]
theorem divB4_eq (c hi lo n left i : Nat) : Fn.divB4 c hi lo n left i = sel (eqI (Int.ofNat (left.div 9223372036854775808)) 1) ((((Nat.mul 2 n).mod 18446744073709551616).add 1).mod 18446744073709551616) (sel (leI (Int.ofNat c) (Int.ofNat ((((Nat.mul 2 left).mod 18446744073709551616).add (Fn.divB0 hi lo i)).mod 18446744073709551616))) ((((Nat.mul 2 n).mod 18446744073709551616).add 1).mod 18446744073709551616) ((Nat.mul 2 n).mod 18446744073709551616)) := by
  unfold Fn.divB4 Fn.divB0
  cases ltI 63 (Int.ofNat i) with
  | true => simp only [sel_true]
  | false => simp only [sel_false]

/-- the bit that a round takes -/
theorem bit_eq {hi lo j : Nat} (hj : j < 128) (hlo : lo < 18446744073709551616) : Fn.divB0 hi lo j = (18446744073709551616 * hi + lo) / 2 ^ j % 2 := by
  unfold Fn.divB0
  have hs : sel (Nat.ble (Nat.mod j 64) 64) (Nat.mod j 64) 64 = j % 64 := sel_le (j := j % 64) (by omega)
  rw [hs]
  have hl : ltI 63 (Int.ofNat j) = decide (63 < j) := ltI_nat 63 j
  rw [hl, sel_eq]
  simp only [ndiv, nmod, show ∀ k, Nat.pow 2 k = 2 ^ k from fun _ => rfl]
  by_cases h : 63 < j
  · rw [if_pos (decide_eq_true h)]
    obtain ⟨k, hk⟩ : ∃ k, j = 64 + k := ⟨j - 64, by omega⟩
    have e1 : j % 64 = k := by omega
    have e2 : (2 : Nat) ^ j = 18446744073709551616 * 2 ^ k := by rw [hk, Nat.pow_add]
    rw [e1, e2, ← Nat.div_div_eq_div_mul, Nat.mul_add_div (by decide), Nat.div_eq_of_lt hlo, Nat.add_zero]
  · rw [if_neg (fun hh => h (of_decide_eq_true hh))]
    have e1 : j % 64 = j := by omega
    obtain ⟨k, hk⟩ : ∃ k, 64 = j + (1 + k) := ⟨63 - j, by omega⟩
    have e2 : (18446744073709551616 : Nat) = 2 ^ j * (2 * 2 ^ k) := by
      have : (18446744073709551616 : Nat) = 2 ^ 64 := rfl
      rw [this, hk, Nat.pow_add, Nat.pow_add, Nat.pow_one]
    rw [e1, e2, Nat.mul_assoc, Nat.mul_add_div (Nat.two_pow_pos j), Nat.mul_assoc, Nat.mul_add_mod]

def DInv (P : Nat) (q : DivSt) : Prop := q.left = P % 1000000000 ∧ q.n = P / 1000000000 % 18446744073709551616 ∧ q.over = decide (18446744073709551616 ≤ P / 1000000000)

theorem div_ge {R Q b : Nat} (hR : R < 1000000000) (hb : b < 2) (h : 1000000000 ≤ 2 * R + b) :
    2 * R + b - 1000000000 = (2 * (1000000000 * Q + R) + b) % 1000000000 ∧ 2 * Q + 1 = (2 * (1000000000 * Q + R) + b) / 1000000000 := by
  constructor <;> omega
theorem div_lt {R Q b : Nat} (h : ¬ 1000000000 ≤ 2 * R + b) :
    2 * R + b = (2 * (1000000000 * Q + R) + b) % 1000000000 ∧ 2 * Q = (2 * (1000000000 * Q + R) + b) / 1000000000 := by
  constructor <;> omega
theorem ov1 {Q : Nat} : (2 * (Q % 18446744073709551616) % 18446744073709551616 + 1) % 18446744073709551616 = (2 * Q + 1) % 18446744073709551616 := by omega
theorem ov0 {Q : Nat} : 2 * (Q % 18446744073709551616) % 18446744073709551616 = 2 * Q % 18446744073709551616 := by omega
theorem ovb {Q e : Nat} (he : e < 2) : (18446744073709551616 ≤ Q ∨ Q % 18446744073709551616 / 9223372036854775808 = 1) ↔ 18446744073709551616 ≤ 2 * Q + e := by omega
theorem lt2 {R b : Nat} (hR : R < 1000000000) (hb : b < 2) : (2 * R % 18446744073709551616 + b) % 18446744073709551616 = 2 * R + b := by omega

theorem div_step {hi lo j : Nat} (hj : j < 128) (hlo : lo < 18446744073709551616) {q : DivSt} (h : DInv ((18446744073709551616 * hi + lo) / 2 ^ (j + 1)) q) :
    DInv ((18446744073709551616 * hi + lo) / 2 ^ j) (divN 1000000000 hi lo j q) := by
  have hbit := bit_eq (hi := hi) hj hlo
  generalize 18446744073709551616 * hi + lo = X at h hbit ⊢
  have hq : X / 2 ^ (j + 1) = X / 2 ^ j / 2 := by rw [Nat.pow_succ, Nat.div_div_eq_div_mul]
  rw [hq] at h
  generalize X / 2 ^ j = P at h hbit ⊢
  have hb2 : Fn.divB0 hi lo j < 2 := by rw [hbit]; exact Nat.mod_lt _ (by decide)
  have hP : P = 2 * (P / 2) + Fn.divB0 hi lo j := by rw [hbit]; exact (Nat.div_add_mod P 2).symm
  unfold DInv divN at *
  simp only
  rw [divB3_eq, divB4_eq]
  unfold Fn.divB1
  obtain ⟨h1, h2, h3⟩ := h
  generalize Fn.divB0 hi lo j = b at *
  generalize P / 2 = P' at *
  rw [h1, h2, h3]
  obtain ⟨Q, hQ⟩ : ∃ Q, P' / 1000000000 = Q := ⟨_, rfl⟩
  obtain ⟨R, hR⟩ : ∃ R, P' % 1000000000 = R := ⟨_, rfl⟩
  have hP' : P' = 1000000000 * Q + R := by rw [← hQ, ← hR]; exact (Nat.div_add_mod _ _).symm
  have hRl : R < 1000000000 := by rw [← hR]; exact Nat.mod_lt _ (by decide)
  rw [hQ, hR, hP, hP']
  clear hP hP' hQ hR h1 h2 h3 hbit hq
  have ht : Nat.mod (Nat.add (Nat.mod (Nat.mul 2 R) 18446744073709551616) b) 18446744073709551616 = 2 * R + b := lt2 hRl hb2
  have hz : Nat.div R 9223372036854775808 = 0 := Nat.div_eq_of_lt (Nat.lt_trans hRl (by decide))
  have hl : leI (Int.ofNat 1000000000) (Int.ofNat (2 * R + b)) = decide (1000000000 ≤ 2 * R + b) := leI_nat _ _
  have ho : eqI (Int.ofNat (Nat.div (Q % 18446744073709551616) 9223372036854775808)) 1 = decide (Q % 18446744073709551616 / 9223372036854775808 = 1) := eqI_nat _ 1
  rw [ht, hz, hl, ho]
  rw [show eqI (Int.ofNat 0) 1 = false from rfl, sel_false, sel_false]
  have hov : ∀ e, e < 2 → sel (decide (18446744073709551616 ≤ Q)) true (decide (Q % 18446744073709551616 / 9223372036854775808 = 1)) = decide (18446744073709551616 ≤ 2 * Q + e) := by
    intro e he
    have := ovb (Q := Q) he
    by_cases g1 : 18446744073709551616 ≤ Q
    · rw [decide_eq_true g1, sel_true, decide_eq_true (this.1 (Or.inl g1))]
    · rw [decide_eq_false g1, sel_false]
      refine decide_eq_decide.2 ⟨fun g => this.1 (Or.inr g), fun g => ?_⟩
      rcases this.2 g with g | g
      · exact absurd g g1
      · exact g
  by_cases hc : 1000000000 ≤ 2 * R + b
  · obtain ⟨g1, g2⟩ := div_ge (Q := Q) hRl hb2 hc
    rw [decide_eq_true hc, sel_true, sel_true, ← g1, ← g2]
    refine ⟨subW_le (by omega) hc, ov1, hov 1 (by decide)⟩
  · obtain ⟨g1, g2⟩ := div_lt (Q := Q) hc
    rw [decide_eq_false hc, sel_false, sel_false, ← g1, ← g2]
    exact ⟨rfl, ov0, hov 0 (by decide)⟩

theorem divF_inv {hi lo : Nat} (hlo : lo < 18446744073709551616) : ∀ (j : Nat), j ≤ 128 → ∀ q, DInv ((18446744073709551616 * hi + lo) / 2 ^ j) q → DInv (18446744073709551616 * hi + lo) (divF 1000000000 hi lo j q)
  | 0, _, q, h => by rw [Nat.pow_zero, Nat.div_one] at h; exact h
  | j + 1, hj, q, h => divF_inv hlo j (by omega) _ (div_step (by omega) hlo h)

theorem divQ_inv {hi lo : Nat} (hhi : hi < 18446744073709551616) (hlo : lo < 18446744073709551616) : DInv (18446744073709551616 * hi + lo) (Fn.divQ 1000000000 hi lo) := by
  refine divF_inv hlo 127 (by decide) _ (div_step (by decide) hlo ?_)
  have : (18446744073709551616 * hi + lo) / 2 ^ (127 + 1) = 0 := by
    refine Nat.div_eq_of_lt ?_
    have e : (2 : Nat) ^ (127 + 1) = 340282366920938463463374607431768211456 := rfl
    rw [e]
    omega
  rw [this]
  exact ⟨rfl, rfl, rfl⟩

theorem mul_lt {a b : Nat} (ha : a < 18446744073709551616) (hb : b ≤ 1000000000) : a * b < 18446744073709551616 * 1000000000 :=
  Nat.lt_of_le_of_lt (Nat.mul_le_mul (Nat.le_of_lt_succ ha) hb) (by decide)

theorem div_fact {P : Nat} (h : P < 18446744073709551616000000000) : P / 1000000000 % 18446744073709551616 = P / 1000000000 ∧ ¬ 18446744073709551616 ≤ P / 1000000000 ∧ P / 18446744073709551616 < 1000000000 := by
  refine ⟨?_, ?_, ?_⟩ <;> omega

theorem muldivr_eq {a b : Nat} (ha : a < 18446744073709551616) (hb : b ≤ 1000000000) : Fn.muldivr0 a b = a * b / 1000000000 ∧ Fn.muldivr1 a b = 0 := by
  have hb' : b < 18446744073709551616 := Nat.lt_of_le_of_lt hb (by decide)
  obtain ⟨w0, w1⟩ := wide_eq ha hb'
  unfold Fn.muldivr0 Fn.muldivr1 Fn.divide0 Fn.divide1 Fn.divqn Fn.divqo
  rw [w0, w1]
  have hlt := mul_lt ha hb
  generalize a * b = P at *
  obtain ⟨f1, f2, f3⟩ := div_fact hlt
  have hI := divQ_inv (hi := P / 18446744073709551616) (lo := P % 18446744073709551616) (Nat.lt_trans f3 (by decide)) (Nat.mod_lt _ (by decide))
  rw [Nat.div_add_mod] at hI
  obtain ⟨_, g2, g3⟩ := hI
  rw [g2, g3, f1, decide_eq_false f2]
  exact ⟨rfl, rfl⟩

theorem muldiv_eq {a b : Nat} (ha : a < 18446744073709551616) (hb : b ≤ 1000000000) : Fn.muldiv0 a b = a * b / 1000000000 := by
  have hb' : b < 18446744073709551616 := Nat.lt_of_le_of_lt hb (by decide)
  unfold Fn.muldiv0
  rw [mul640_eq ha hb', mul641_eq]
  have hlt := mul_lt ha hb
  generalize a * b = P at *
  obtain ⟨f1, f2, f3⟩ := div_fact hlt
  have e : Nat.mod (Nat.div (P / 18446744073709551616) 1000000000) 18446744073709551616 = 0 := by
    have : Nat.div (P / 18446744073709551616) 1000000000 = 0 := Nat.div_eq_of_lt f3
    rw [this]
  rw [e, show (!eqI (Int.ofNat 0) 0) = false from rfl, sel_false]
  have e2 : Nat.mod (P / 18446744073709551616) 1000000000 = P / 18446744073709551616 := Nat.mod_eq_of_lt f3
  rw [e2]
  unfold Fn.div64q
  rw [Nat.div_add_mod]
end Go.Ax

