import Derived.Test.YtgnpflplfnlccaaGreatDoorDn
set_option maxRecDepth 1000000
namespace Go.Ax
open Go Go.Proofs
noncomputable def mA135_0 : List Value := [(.agg ⟨[(.int .i64 (Int.ofNat 100)), (.int .i64 (Int.ofNat 100)), (.int .i64 (Int.ofNat 10)), (.int .i64 (Int.ofNat 8)), (.int .i64 (Int.ofNat 7)), (.int .i64 (Int.ofNat 8)), (.int .i64 (Int.ofNat 20)), (.int .u64 (Int.ofNat 50000000)), (.int .u64 (Int.ofNat 3)), (.int .i64 (Int.ofNat 50)), (.int .u64 (Int.ofNat 100000000))]⟩)]
noncomputable def mR135_0 : Value := (.tuple ⟨[(.int .i64 (Int.ofNat 0)), (.int .i64 (Int.ofNat 0))]⟩)
theorem m135_0 : outV ((jRunN CC 60).1 135 mA135_0 noneSt) = some mR135_0 := by kernel_rfl
noncomputable def mA135_1 : List Value := [(.agg ⟨[(.int .i64 (Int.ofNat 0)), (.int .i64 (Int.ofNat 0)), (.int .i64 (Int.ofNat 0)), (.int .i64 (Int.ofNat 0)), (.int .i64 (Int.ofNat 0)), (.int .i64 (Int.ofNat 0)), (.int .i64 (Int.ofNat 0)), (.int .u64 (Int.ofNat 0)), (.int .u64 (Int.ofNat 0)), (.int .i64 (Int.ofNat 0)), (.int .u64 (Int.ofNat 0))]⟩)]
noncomputable def mR135_1 : Value := (.tuple ⟨[(.int .i64 (Int.ofNat 3)), (.int .i64 (Int.ofNat 0))]⟩)
theorem m135_1 : outV ((jRunN CC 60).1 135 mA135_1 noneSt) = some mR135_1 := by kernel_rfl
noncomputable def mT135 : List (List Value × Value) := [(mA135_0, mR135_0), (mA135_1, mR135_1)]
theorem mH135 : ∀ p ∈ mT135, ∃ s1, (runN CC 60).1 135 p.1 noneSt = some (p.2, s1) := by
  intro p hp
  rw [← jRunN_eq]
  unfold mT135 at hp
  rcases List.mem_cons.1 hp with rfl | hp
  · exact outV_some m135_0
  rcases List.mem_cons.1 hp with rfl | hp
  · exact outV_some m135_1
  exact absurd hp List.not_mem_nil
noncomputable def insTM : List (Nat × Con) := (135, .pure (memoG mT135)) :: insT
noncomputable def CM : Cfg := { CB with ext := lookN extT, insert := lookN insTM }
theorem cm_insert : ∀ f t, lookN insTM f = some t → ∀ args s v s', runCon CM t s args = some (v, s') → ∀ base ρ w cargs, HR Tryz.prog base ρ s w → VRs ρ args cargs →
    Calls Tryz.prog f ⟨cargs⟩ w fun e w' => ∃ c ρ', e = .returned c ∧ Goes Tryz.prog base ρ s w ρ' s' w' ∧ VR ρ' v c := by
  intro f t h args s v s' hv base ρ w cargs hr ha
  have h' := h
  replace h' : sel (Nat.beq 135 f) (some (Con.pure (memoG mT135))) (lookN ( insT) f) = some t := h'
  rw [sel_eq] at h'
  split at h'
  · rename_i hb
    cases h'
    have hf : 135 = f := Nat.eq_of_beq_eq_true hb
    subst hf
    exact conPure_sound cc_ok (memo_hrun mH135) hv hr ha
  cases t with
  | insert e => exact cc_insert f _ h' args s v s' hv base ρ w cargs hr ha
  | closed ok => exact cc_insert f _ h' args s v s' hv base ρ w cargs hr ha
  | fn F => exact cc_insert f _ h' args s v s' hv base ρ w cargs hr ha
  | pure G => exact cc_insert f _ h' args s v s' hv base ρ w cargs hr ha
theorem cm_ok : CfgOk CM Tryz.prog := cfg_ok (ext := lookN extT) (ins := lookN insTM) rfl cm_insert (fun f e h base ρ s s' w args cargs v hr ha hv => cc_ok.ext f e h base ρ s s' w args cargs v hr ha hv)
end Go.Ax

