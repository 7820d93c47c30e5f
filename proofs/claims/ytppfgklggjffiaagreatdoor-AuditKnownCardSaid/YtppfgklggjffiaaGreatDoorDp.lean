import Derived.Test.YtppfgklggjffiaaGreatDoorDo
set_option maxRecDepth 1000000
namespace Go.Ax
open Go Go.Proofs
noncomputable def mA158_0 : List Value := [(.agg ⟨[(.int .i64 (Int.ofNat 4)), (.int .i64 (Int.ofNat 4)), (.int .i64 (Int.ofNat 2)), (.int .i64 (Int.ofNat 3)), (.int .i64 (Int.ofNat 7)), (.int .i64 (Int.ofNat 8)), (.int .i64 (Int.ofNat 2)), (.int .u64 (Int.ofNat 100000000)), (.int .u64 (Int.ofNat 0)), (.int .i64 (Int.ofNat 50)), (.int .u64 (Int.ofNat 100000000))]⟩)]
noncomputable def mR158_0 : Value := (.tuple ⟨[(.int .i64 (Int.ofNat 0)), (.int .i64 (Int.ofNat 0))]⟩)
theorem m158_0 : outV ((jRunN CC 60).1 158 mA158_0 noneSt) = some mR158_0 := by kernel_rfl
noncomputable def mT158 : List (List Value × Value) := [(mA158_0, mR158_0)]
theorem mH158 : ∀ p ∈ mT158, ∃ s1, (runN CC 60).1 158 p.1 noneSt = some (p.2, s1) := by
  intro p hp
  rw [← jRunN_eq]
  unfold mT158 at hp
  rcases List.mem_cons.1 hp with rfl | hp
  · exact outV_some m158_0
  exact absurd hp List.not_mem_nil
noncomputable def mA180_0 : List Value := [(.agg ⟨[(.int .i64 (Int.ofNat 0)), (.int .i64 (Int.ofNat 1)), (.int .i64 (Int.negSucc 0)), (.int .i64 (Int.ofNat 0))]⟩)]
noncomputable def mR180_0 : Value := (.int .i64 (Int.ofNat 0))
theorem m180_0 : outV ((jRunN CC 60).1 180 mA180_0 noneSt) = some mR180_0 := by kernel_rfl
noncomputable def mT180 : List (List Value × Value) := [(mA180_0, mR180_0)]
theorem mH180 : ∀ p ∈ mT180, ∃ s1, (runN CC 60).1 180 p.1 noneSt = some (p.2, s1) := by
  intro p hp
  rw [← jRunN_eq]
  unfold mT180 at hp
  rcases List.mem_cons.1 hp with rfl | hp
  · exact outV_some m180_0
  exact absurd hp List.not_mem_nil
noncomputable def mA318_0 : List Value := [(.agg ⟨[(.int .i64 (Int.ofNat 0)), (.int .i64 (Int.ofNat 1)), (.int .i64 (Int.negSucc 0)), (.int .i64 (Int.ofNat 0))]⟩), (.agg ⟨[(.int .i64 (Int.ofNat 0)), (.int .i64 (Int.ofNat 1)), (.int .i64 (Int.negSucc 0)), (.int .i64 (Int.ofNat 0))]⟩)]
noncomputable def mR318_0 : Value := (.int .i64 (Int.ofNat 0))
theorem m318_0 : outV ((jRunN CC 60).1 318 mA318_0 noneSt) = some mR318_0 := by kernel_rfl
noncomputable def mT318 : List (List Value × Value) := [(mA318_0, mR318_0)]
theorem mH318 : ∀ p ∈ mT318, ∃ s1, (runN CC 60).1 318 p.1 noneSt = some (p.2, s1) := by
  intro p hp
  rw [← jRunN_eq]
  unfold mT318 at hp
  rcases List.mem_cons.1 hp with rfl | hp
  · exact outV_some m318_0
  exact absurd hp List.not_mem_nil
noncomputable def insTM : List (Nat × Con) := (158, .pure (memoG mT158)) :: (180, .pure (memoG mT180)) :: (318, .pure (memoG mT318)) :: insT
noncomputable def CM : Cfg := { CB with ext := lookN extT, insert := lookN insTM }
theorem cm_insert : ∀ f t, lookN insTM f = some t → ∀ args s v s', runCon CM t s args = some (v, s') → ∀ base ρ w cargs, HR Tryz.prog base ρ s w → VRs ρ args cargs →
    Calls Tryz.prog f ⟨cargs⟩ w fun e w' => ∃ c ρ', e = .returned c ∧ Goes Tryz.prog base ρ s w ρ' s' w' ∧ VR ρ' v c := by
  intro f t h args s v s' hv base ρ w cargs hr ha
  have h' := h
  replace h' : sel (Nat.beq 158 f) (some (Con.pure (memoG mT158))) (lookN ((180, .pure (memoG mT180)) :: (318, .pure (memoG mT318)) :: insT) f) = some t := h'
  rw [sel_eq] at h'
  split at h'
  · rename_i hb
    cases h'
    have hf : 158 = f := Nat.eq_of_beq_eq_true hb
    subst hf
    exact conPure_sound cc_ok (memo_hrun mH158) hv hr ha
  replace h' : sel (Nat.beq 180 f) (some (Con.pure (memoG mT180))) (lookN ((318, .pure (memoG mT318)) :: insT) f) = some t := h'
  rw [sel_eq] at h'
  split at h'
  · rename_i hb
    cases h'
    have hf : 180 = f := Nat.eq_of_beq_eq_true hb
    subst hf
    exact conPure_sound cc_ok (memo_hrun mH180) hv hr ha
  replace h' : sel (Nat.beq 318 f) (some (Con.pure (memoG mT318))) (lookN ( insT) f) = some t := h'
  rw [sel_eq] at h'
  split at h'
  · rename_i hb
    cases h'
    have hf : 318 = f := Nat.eq_of_beq_eq_true hb
    subst hf
    exact conPure_sound cc_ok (memo_hrun mH318) hv hr ha
  cases t with
  | insert e => exact cc_insert f _ h' args s v s' hv base ρ w cargs hr ha
  | closed ok => exact cc_insert f _ h' args s v s' hv base ρ w cargs hr ha
  | fn F => exact cc_insert f _ h' args s v s' hv base ρ w cargs hr ha
  | pure G => exact cc_insert f _ h' args s v s' hv base ρ w cargs hr ha
theorem cm_ok : CfgOk CM Tryz.prog := cfg_ok (ext := lookN extT) (ins := lookN insTM) rfl cm_insert (fun f e h base ρ s s' w args cargs v hr ha hv => cc_ok.ext f e h base ρ s s' w args cargs v hr ha hv)
end Go.Ax

