import Derived.Test.YtmbpmgemhnholaaGreatDoorDr
set_option maxRecDepth 1000000
set_option maxHeartbeats 0
namespace Go.Ax
open Go Go.Proofs

theorem mul640_eq {x y : Nat} (hx : x < 18446744073709551616) (hy : y < 18446744073709551616) : Fn.mul640 x y = x * y / 18446744073709551616 := by
  unfold Fn.mul640
  simp only [nadd, nmul, ndiv, nmod, mask32]
  have ex : x % 18446744073709551616 % 4294967296 = x % 4294967296 := by omega
  have ey : y % 18446744073709551616 % 4294967296 = y % 4294967296 := by omega
  rw [ex, ey]
  obtain ⟨x1, hx1⟩ : ∃ q, x / 4294967296 = q := ⟨_, rfl⟩
  obtain ⟨x0, hx0⟩ : ∃ q, x % 4294967296 = q := ⟨_, rfl⟩
  obtain ⟨y1, hy1⟩ : ∃ q, y / 4294967296 = q := ⟨_, rfl⟩
  obtain ⟨y0, hy0⟩ : ∃ q, y % 4294967296 = q := ⟨_, rfl⟩
  simp only [hx1, hx0, hy1, hy0]
  have hxx : x = x1 * 4294967296 + x0 := by omega
  have hyy : y = y1 * 4294967296 + y0 := by omega
  have hp : x * y = x1 * y1 * 18446744073709551616 + x1 * y0 * 4294967296 + x0 * y1 * 4294967296 + x0 * y0 := by
    rw [hxx, hyy, Nat.add_mul, Nat.mul_add, Nat.mul_add]
    have e1 : x1 * 4294967296 * (y1 * 4294967296) = x1 * y1 * 18446744073709551616 := by rw [Nat.mul_mul_mul_comm]
    have e2 : x1 * 4294967296 * y0 = x1 * y0 * 4294967296 := by rw [Nat.mul_right_comm]
    have e3 : x0 * (y1 * 4294967296) = x0 * y1 * 4294967296 := by rw [Nat.mul_assoc]
    rw [e1, e2, e3]
    omega
  rw [hp]
  have b1 : x1 * y1 ≤ 4294967295 * 4294967295 := Nat.mul_le_mul (by omega) (by omega)
  have b2 : x1 * y0 ≤ 4294967295 * 4294967295 := Nat.mul_le_mul (by omega) (by omega)
  have b3 : x0 * y1 ≤ 4294967295 * 4294967295 := Nat.mul_le_mul (by omega) (by omega)
  have b4 : x0 * y0 ≤ 4294967295 * 4294967295 := Nat.mul_le_mul (by omega) (by omega)
  generalize x1 * y1 = p1 at *
  generalize x1 * y0 = p2 at *
  generalize x0 * y1 = p3 at *
  generalize x0 * y0 = p4 at *
  clear hp hxx hyy hx1 hx0 hy1 hy0 ex ey hx hy
  omega

end Go.Ax
theorem wide_a1 {hi lo X : Nat} (h : 18446744073709551616 * hi + lo = X) (hbd : 2 * X ≤ 340282366920938463426481119284349108225) :
   18446744073709551616 * (((2 * hi % 18446744073709551616) + lo / 9223372036854775808) % 18446744073709551616) + 2 * lo % 18446744073709551616 = 2 * X := by omega
theorem wide_a2 {hi lo X b : Nat} (h : 18446744073709551616 * hi + lo = X) (_hlo : lo < 18446744073709551616) (hb : b < 18446744073709551616) (hbd : 2 * X + b ≤ 340282366920938463426481119284349108225)
   (hd : (2 * lo % 18446744073709551616 + b) % 18446744073709551616 < 2 * lo % 18446744073709551616) :
   18446744073709551616 * ((((2 * hi % 18446744073709551616) + lo / 9223372036854775808) % 18446744073709551616 + 1) % 18446744073709551616) + (2 * lo % 18446744073709551616 + b) % 18446744073709551616 = 2 * X + b := by omega
theorem wide_a3 {hi lo X b : Nat} (h : 18446744073709551616 * hi + lo = X) (_hlo : lo < 18446744073709551616) (hb : b < 18446744073709551616) (hbd : 2 * X + b ≤ 340282366920938463426481119284349108225)
   (hd : ¬ (2 * lo % 18446744073709551616 + b) % 18446744073709551616 < 2 * lo % 18446744073709551616) :
   18446744073709551616 * (((2 * hi % 18446744073709551616) + lo / 9223372036854775808) % 18446744073709551616) + (2 * lo % 18446744073709551616 + b) % 18446744073709551616 = 2 * X + b := by omega
namespace Go.Ax
open Go Go.Proofs
theorem mul641_eq (x y : Nat) : Fn.mul641 x y = x * y % 18446744073709551616 := rfl

theorem sel_le {j k : Nat} (h : j ≤ k) : sel (Nat.ble j k) j k = j := by rw [Nat.ble_eq_true_of_le h]; rfl

theorem wide_step {a b hi lo j : Nat} (hj : j < 64) (ha : a < 18446744073709551616) (hb : b < 18446744073709551616) (h : 18446744073709551616 * hi + lo = a / 2 ^ (j + 1) * b) (hlo : lo < 18446744073709551616) :
    18446744073709551616 * Fn.wideB1 a b hi lo j + Fn.wideB2 a b lo j = a / 2 ^ j * b ∧ Fn.wideB2 a b lo j < 18446744073709551616 := by
  have hs : sel (Nat.ble j 64) j 64 = j := sel_le (by omega)
  have hq : a / 2 ^ (j + 1) = a / 2 ^ j / 2 := by rw [Nat.pow_succ, Nat.div_div_eq_div_mul]
  have hQ : a / 2 ^ j ≤ 18446744073709551615 := Nat.le_trans (Nat.div_le_self _ _) (Nat.le_of_lt_succ ha)
  unfold Fn.wideB1 Fn.wideB2
  rw [hs]
  have hc : ∀ n : Nat, eqI (Int.ofNat n) 1 = decide (n = 1) := fun n => eqI_nat n 1
  simp only [hc, ltI_nat]
  simp only [nadd, nmul, ndiv, nmod, show Nat.pow 2 j = 2 ^ j from rfl]
  rw [hq] at h
  have hbd : a / 2 ^ j * b ≤ 340282366920938463426481119284349108225 := Nat.mul_le_mul hQ (Nat.le_of_lt_succ hb)
  generalize a / 2 ^ j = Q at h hbd ⊢
  have hX : Q * b = 2 * (Q / 2 * b) + Q % 2 * b := by
    have e : Q = 2 * (Q / 2) + Q % 2 := (Nat.div_add_mod Q 2).symm
    conv => lhs; rw [e, Nat.add_mul, Nat.mul_assoc]
  generalize Q / 2 * b = X at h hX
  rw [hX] at hbd ⊢
  have hm : Q % 2 = 0 ∨ Q % 2 = 1 := Nat.mod_two_eq_zero_or_one Q
  clear hX hq hs hc ha hQ
  rcases hm with hm | hm
  · rw [hm] at hbd ⊢
    rw [Nat.zero_mul, Nat.add_zero] at hbd ⊢
    rw [show decide ((0 : Nat) = 1) = false from rfl, sel_false, sel_false]
    exact ⟨wide_a1 h hbd, Nat.mod_lt _ (by decide)⟩
  · rw [hm] at hbd ⊢
    rw [Nat.one_mul] at hbd ⊢
    rw [show decide ((1 : Nat) = 1) = true from rfl, sel_true, sel_true, sel_eq]
    refine ⟨?_, Nat.mod_lt _ (by decide)⟩
    split
    · rename_i hd
      exact wide_a2 h hlo hb hbd (of_decide_eq_true hd)
    · rename_i hd
      exact wide_a3 h hlo hb hbd (fun hh => hd (decide_eq_true hh))

theorem wideF_eq {a b : Nat} (ha : a < 18446744073709551616) (hb : b < 18446744073709551616) : ∀ (j : Nat), j ≤ 64 → ∀ (hi lo : Nat), 18446744073709551616 * hi + lo = a / 2 ^ j * b → lo < 18446744073709551616 →
    18446744073709551616 * (wideF a b j hi lo).1 + (wideF a b j hi lo).2 = a * b ∧ (wideF a b j hi lo).2 < 18446744073709551616
  | 0, _, hi, lo, h, hlo => ⟨by rw [Nat.pow_zero, Nat.div_one] at h; exact h, hlo⟩
  | j + 1, hj, hi, lo, h, hlo => by
    obtain ⟨h1, h2⟩ := wide_step (hi := hi) (lo := lo) (j := j) (by omega) ha hb h hlo
    exact wideF_eq ha hb j (by omega) _ _ h1 h2

theorem split_W {u v p : Nat} (h : 18446744073709551616 * u + v = p) (hv : v < 18446744073709551616) : u = p / 18446744073709551616 ∧ v = p % 18446744073709551616 := by
  constructor <;> omega

theorem wide_eq {a b : Nat} (ha : a < 18446744073709551616) (hb : b < 18446744073709551616) : Fn.wide0 a b = a * b / 18446744073709551616 ∧ Fn.wide1 a b = a * b % 18446744073709551616 := by
  have h0 : 18446744073709551616 * 0 + 0 = a / 2 ^ 64 * b := by
    rw [Nat.div_eq_of_lt ha, Nat.zero_mul]
  obtain ⟨h1, h2⟩ := wideF_eq ha hb 64 (Nat.le_refl _) 0 0 h0 (by decide)
  exact split_W h1 h2
end Go.Ax

