import Derived.Test.YtnhpghifaafnkaaGreatDoorDr
import Derived.Test.YtnhpghifaafnkaaGreatDoorDf
set_option maxRecDepth 1000000
namespace Go.Ax
open Go Go.Proofs
theorem toks_vrs (ρ : Ren) : ∀ (is : List Nat) (ks : List IntKind) (ns : List Int), is.length = ks.length → ns.length = ks.length → VRs ρ (is.map fun i => .chan (some i)) (List.zipWith Value.int ks ns)
  | [], [], _, _, _ => .nil
  | i :: is, k :: ks, n :: ns, h1, h2 => .cons (.tok i k n) (toks_vrs ρ is ks ns (by simpa using h1) (by simpa using h2))
  | _ :: _, [], _, h1, _ => by simp at h1
  | [], _ :: _, _, h1, _ => by simp at h1
  | _ :: _, _ :: _, [], _, h2 => by simp at h2
theorem msgV_eq : msgV = .agg ⟨(List.range 154).map fun i => .chan (some i)⟩ := by kernel_rfl
theorem msg_vr (ρ : Ren) {ks : List IntKind} {ns : List Int} (h1 : ks.length = 154) (h2 : ns.length = ks.length) : VR ρ msgV (.agg (List.zipWith Value.int ks ns).toArray) := by
  rw [msgV_eq]
  exact .agg (toks_vrs ρ _ ks ns (by simp [h1]) h2)
theorem calls_nil {ks : List IntKind} {ns : List Int} (h1 : ks.length = 154) (h2 : ns.length = ks.length) {W : World} (hL : Laid W) :
    Calls Tryz.prog 3 #[.agg (List.zipWith Value.int ks ns).toArray, .slice none 0 0] W fun e w' => e = .returned (.bool true) ∧ RowKit.Below W.heap.size W w' :=
  calls_of_runL cc1_ok run_nil (cargs := [_, _]) (.cons (msg_vr _ h1 h2) (.cons (.sliceNil 0 0) .nil)) hL
theorem calls_some {ks : List IntKind} {ns : List Int} (h1 : ks.length = 154) (h2 : ns.length = ks.length) (a : Addr) (n c : Nat) {W : World} (hL : Laid W) :
    Calls Tryz.prog 3 #[.agg (List.zipWith Value.int ks ns).toArray, .slice (some a) n c] W fun e w' => e = .returned (.bool true) ∧ RowKit.Below W.heap.size W w' := by
  by_cases h : n ≤ 300
  · exact calls_of_runL cc1_ok run_few (cargs := [_, _]) (.cons (msg_vr _ h1 h2) (.cons (.olen 0 300 a n c (Nat.zero_le _) (.inr h)) .nil)) hL
  · exact calls_of_runL cc1_ok run_many (cargs := [_, _]) (.cons (msg_vr _ h1 h2) (.cons (.olen 301 0 a n c (by omega) (.inl rfl)) .nil)) hL
end Go.Ax

