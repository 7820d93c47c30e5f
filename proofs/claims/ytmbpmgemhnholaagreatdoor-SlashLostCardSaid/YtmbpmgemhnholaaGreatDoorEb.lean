import Derived.Test.YtmbpmgemhnholaaGreatDoorEa
import Derived.Test.YtmbpmgemhnholaaGreatDoorDg
set_option maxRecDepth 1000000
namespace Go.Ax
open Go Go.Proofs
theorem wf_u64 {n : Int} (h : (Lit.int .u64 n).wf = true) : ∃ m : Nat, n = Int.ofNat m ∧ m < 18446744073709551616 := by
  have h' : (decide (IntKind.min .u64 ≤ n) && decide (n ≤ IntKind.max .u64)) = true := h
  rw [Bool.and_eq_true] at h'
  have h1 : (0 : Int) ≤ n := of_decide_eq_true h'.1
  have h2 : n ≤ 18446744073709551615 := of_decide_eq_true h'.2
  obtain ⟨m, rfl⟩ := Int.eq_ofNat_of_zero_le h1
  exact ⟨m, rfl, by omega⟩
theorem wf_i64 {n : Int} (h : (Lit.int .i64 n).wf = true) : n ≤ 9223372036854775807 := by
  have h' : (decide (IntKind.min .i64 ≤ n) && decide (n ≤ IntKind.max .i64)) = true := h
  rw [Bool.and_eq_true] at h'
  exact of_decide_eq_true h'.2
def ksSen : List LK := [.int .i64, .int .i64, .int .i64, .int .u64, .int .u64, .int .u64, .int .i64, .slice, .slice, .int .u64, .int .u64, .int .u64, .int .u64, .int .u64, .int .i64, .int .i64]
def ksSta : List LK := [.int .i64, .int .i64, .int .i64, .int .i64]
theorem leaf_int {k : IntKind} {ks : List LK} {l : List Value} (h : LeafAll (.int k :: ks) l) : ∃ (n : Int) (vs : List Value), l = .int k n :: vs ∧ (Lit.int k n).wf = true ∧ LeafAll ks vs := by
  cases h with
  | cons h hs =>
    cases h with
    | int k n h => exact ⟨n, _, rfl, h, hs⟩
theorem leaf_slice {ks : List LK} {l : List Value} (h : LeafAll (.slice :: ks) l) : ∃ (v : Value) (vs : List Value), l = v :: vs ∧ LeafOk .slice v ∧ LeafAll ks vs := by
  cases h with
  | cons h hs => exact ⟨_, _, rfl, h, hs⟩
theorem leaf_nil {l : List Value} (h : LeafAll [] l) : l = [] := by cases h; rfl
theorem slash_calls {cs ds : List Value} (hc : LeafAll ksSen cs) (hd : LeafAll ksSta ds) (t k : Int) (hk : (Lit.int .u64 k).wf = true) {W : World} (hL : Laid W) :
    Calls Tryz.prog 3 ⟨[.agg ⟨cs⟩, .agg ⟨ds⟩, .int .i64 t, .int .u64 k]⟩ W fun e w' => e = .returned (.bool true) ∧ RowKit.Below W.heap.size W w' := by
  obtain ⟨tok, rfl, htok⟩ := wf_u64 hk
  obtain ⟨a, _, rfl, _, hd⟩ := leaf_int hd
  obtain ⟨b, _, rfl, _, hd⟩ := leaf_int hd
  obtain ⟨c, _, rfl, _, hd⟩ := leaf_int hd
  obtain ⟨d, _, rfl, _, hd⟩ := leaf_int hd
  obtain rfl := leaf_nil hd
  obtain ⟨v, _, rfl, _, hc⟩ := leaf_int hc
  obtain ⟨x1, _, rfl, _, hc⟩ := leaf_int hc
  obtain ⟨h, _, rfl, hh, hc⟩ := leaf_int hc
  obtain ⟨x3, _, rfl, _, hc⟩ := leaf_int hc
  obtain ⟨x4, _, rfl, _, hc⟩ := leaf_int hc
  obtain ⟨f', _, rfl, hf, hc⟩ := leaf_int hc
  obtain ⟨x6, _, rfl, _, hc⟩ := leaf_int hc
  obtain ⟨v7, _, rfl, h7, hc⟩ := leaf_slice hc
  obtain ⟨v8, _, rfl, h8, hc⟩ := leaf_slice hc
  obtain ⟨x9, _, rfl, _, hc⟩ := leaf_int hc
  obtain ⟨x10, _, rfl, _, hc⟩ := leaf_int hc
  obtain ⟨x11, _, rfl, _, hc⟩ := leaf_int hc
  obtain ⟨x12, _, rfl, _, hc⟩ := leaf_int hc
  obtain ⟨x13, _, rfl, _, hc⟩ := leaf_int hc
  obtain ⟨x14, _, rfl, _, hc⟩ := leaf_int hc
  obtain ⟨x15, _, rfl, _, hc⟩ := leaf_int hc
  obtain rfl := leaf_nil hc
  obtain ⟨f, rfl, _⟩ := wf_u64 hf
  have hh := wf_i64 hh
  have vd : VR (fun _ => none) (.agg ⟨[.int .i64 a, .int .i64 b, .int .i64 c, .int .i64 d]⟩) (.agg ⟨[.int .i64 a, .int .i64 b, .int .i64 c, .int .i64 d]⟩) :=
    .agg (.cons (.int _ _) (.cons (.int _ _) (.cons (.int _ _) (.cons (.int _ _) .nil))))
  have vc : ∀ {s7 s8 : Value}, VR (fun _ => none) s7 v7 → VR (fun _ => none) s8 v8 → VRs (fun _ => none)
      [.agg ⟨[.int .i64 v, .int .i64 x1, .int .i64 h, .int .u64 x3, .int .u64 x4, .int .u64 (Int.ofNat f), .int .i64 x6, s7, s8, .int .u64 x9, .int .u64 x10, .int .u64 x11, .int .u64 x12, .int .u64 x13, .int .i64 x14, .int .i64 x15]⟩,
        .agg ⟨[.int .i64 a, .int .i64 b, .int .i64 c, .int .i64 d]⟩, .int .i64 t, .int .u64 (Int.ofNat tok)]
      [.agg ⟨[.int .i64 v, .int .i64 x1, .int .i64 h, .int .u64 x3, .int .u64 x4, .int .u64 (Int.ofNat f), .int .i64 x6, v7, v8, .int .u64 x9, .int .u64 x10, .int .u64 x11, .int .u64 x12, .int .u64 x13, .int .i64 x14, .int .i64 x15]⟩,
        .agg ⟨[.int .i64 a, .int .i64 b, .int .i64 c, .int .i64 d]⟩, .int .i64 t, .int .u64 (Int.ofNat tok)] := fun g7 g8 =>
    .cons (.agg (.cons (.int _ _) (.cons (.int _ _) (.cons (.int _ _) (.cons (.int _ _) (.cons (.int _ _) (.cons (.int _ _) (.cons (.int _ _) (.cons g7 (.cons g8 (.cons (.int _ _) (.cons (.int _ _) (.cons (.int _ _) (.cons (.int _ _) (.cons (.int _ _) (.cons (.int _ _) (.cons (.int _ _) .nil)))))))))))))))))
      (.cons vd (.cons (.int _ _) (.cons (.int _ _) .nil)))
  cases h7 with
  | nil =>
    cases h8 with
    | nil => exact slash_calls00 (hh := hh) (ht := htok) (hv := vc (.sliceNil 0 0) (.sliceNil 0 0)) (hL := hL)
    | slice a8 n8 c8 => exact slash_calls0n (hh := hh) (ht := htok) (hv := vc (.sliceNil 0 0) (.opq a8 n8 c8)) (hL := hL)
  | slice a7 n7 c7 =>
    cases h8 with
    | nil => exact slash_callsn0 (hh := hh) (ht := htok) (hv := vc (.opq a7 n7 c7) (.sliceNil 0 0)) (hL := hL)
    | slice a8 n8 c8 => exact slash_callsnn (hh := hh) (ht := htok) (hv := vc (.opq a7 n7 c7) (.opq a8 n8 c8)) (hL := hL)
end Go.Ax

