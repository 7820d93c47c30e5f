import Derived.Test.YtifhpiilobkjiaaGreatDoorDj
import Derived.Test.YtifhpiilobkjiaaGreatDoorDf
set_option maxRecDepth 1000000
namespace Go.Ax
open Go Go.Proofs

/-! strings.Index of a line's end, where it stands first -/
noncomputable def extI : List (Nat × Ext) := [(284, .indexByte)]
noncomputable def CI : Cfg := { CB with ext := lookN extI, insert := fun _ => none }
theorem ci_ok : CfgOk CI Tryz.prog := cfg_ok (ext := lookN extI) (ins := fun _ => none) rfl (fun _ _ h => by cases h) (fun f e h => by
  have h : sel (Nat.beq 284 f) (some Ext.indexByte) none = some e := h
  rw [sel_eq] at h
  split at h
  · rename_i hb
    cases h
    have hf : 284 = f := Nat.eq_of_beq_eq_true hb
    subst hf
    exact indexByte_sound (by kernel_rfl) (by kernel_rfl)
  · cases h)
noncomputable def idxG (args : List Value) : Option Value :=
  match args with
  | [.string ⟨⟨x :: _⟩⟩, .string ⟨⟨[c]⟩⟩] => sel (Nat.beq c.toNat 10 && Nat.beq x.toNat 10) (some (.int .i64 0)) none
  | _ => none
noncomputable def outI : Option (Value × St) → Option Value := fun r => Option.casesOn r none fun q => some q.1
theorem outI_some {r : Option (Value × St)} {v : Value} (h : outI r = some v) : ∃ s1, r = some (v, s1) := by
  match r, h with
  | some (_, s), h => cases h; exact ⟨s, rfl⟩
theorem idxA : outI ((jRunN CI 60).1 99 [.string ⟨⟨[10]⟩⟩, .string ⟨⟨[10]⟩⟩] noneSt) = some (.int .i64 0) := by kernel_rfl
theorem idxB (y : UInt8) (t : List UInt8) : outI ((jRunN CI 60).1 99 [.string ⟨⟨10 :: y :: t⟩⟩, .string ⟨⟨[10]⟩⟩] noneSt) = some (.int .i64 0) := by kernel_rfl
theorem idx_hrun : ∀ args v, freeAll args = true → idxG args = some v → ∃ s1, (runN CI 60).1 99 args noneSt = some (v, s1) := by
  intro args v _ h
  rw [← jRunN_eq]
  unfold idxG at h
  split at h
  · rename_i x t c q
    rw [sel_eq] at h
    split at h
    · rename_i hc
      simp only [Bool.and_eq_true, Nat.beq_eq] at hc
      have h1 : c = 10 := UInt8.toNat_inj.1 hc.1
      have h2 : x = 10 := UInt8.toNat_inj.1 hc.2
      subst h1 h2
      cases h
      cases t with
      | nil => exact outI_some idxA
      | cons y t => exact outI_some (idxB y t)
    · cases h
  · cases h
end Go.Ax

