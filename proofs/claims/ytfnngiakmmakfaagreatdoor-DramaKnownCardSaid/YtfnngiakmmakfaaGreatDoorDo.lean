import Derived.Test.YtfnngiakmmakfaaGreatDoorDn
set_option maxRecDepth 1000000
namespace Go.Ax
open Go Go.Proofs
noncomputable def mA81_0 : List Value := [(.agg ⟨[(.int .i64 (Int.ofNat 4)), (.int .i64 (Int.ofNat 4)), (.int .i64 (Int.ofNat 2)), (.int .i64 (Int.ofNat 3)), (.int .i64 (Int.ofNat 7)), (.int .i64 (Int.ofNat 8)), (.int .i64 (Int.ofNat 2)), (.int .u64 (Int.ofNat 50000000)), (.int .u64 (Int.ofNat 3)), (.int .i64 (Int.ofNat 50)), (.int .u64 (Int.ofNat 100000000))]⟩)]
noncomputable def mR81_0 : Value := (.tuple ⟨[(.int .i64 (Int.ofNat 0)), (.int .i64 (Int.ofNat 0))]⟩)
theorem m81_0 : outV ((jRunN CC 60).1 81 mA81_0 noneSt) = some mR81_0 := by kernel_rfl
noncomputable def mA81_1 : List Value := [(.agg ⟨[(.int .i64 (Int.ofNat 0)), (.int .i64 (Int.ofNat 0)), (.int .i64 (Int.ofNat 0)), (.int .i64 (Int.ofNat 0)), (.int .i64 (Int.ofNat 0)), (.int .i64 (Int.ofNat 0)), (.int .i64 (Int.ofNat 0)), (.int .u64 (Int.ofNat 0)), (.int .u64 (Int.ofNat 0)), (.int .i64 (Int.ofNat 0)), (.int .u64 (Int.ofNat 0))]⟩)]
noncomputable def mR81_1 : Value := (.tuple ⟨[(.int .i64 (Int.ofNat 3)), (.int .i64 (Int.ofNat 0))]⟩)
theorem m81_1 : outV ((jRunN CC 60).1 81 mA81_1 noneSt) = some mR81_1 := by kernel_rfl
noncomputable def mT81 : List (List Value × Value) := [(mA81_0, mR81_0), (mA81_1, mR81_1)]
theorem mH81 : ∀ p ∈ mT81, ∃ s1, (runN CC 60).1 81 p.1 noneSt = some (p.2, s1) := by
  intro p hp
  rw [← jRunN_eq]
  unfold mT81 at hp
  rcases List.mem_cons.1 hp with rfl | hp
  · exact outV_some m81_0
  rcases List.mem_cons.1 hp with rfl | hp
  · exact outV_some m81_1
  exact absurd hp List.not_mem_nil
noncomputable def mA293_0 : List Value := [(.agg ⟨[(.int .i64 (Int.ofNat 1)), (.int .i64 (Int.ofNat 1)), (.int .i64 (Int.negSucc 0)), (.int .i64 (Int.ofNat 0))]⟩)]
noncomputable def mR293_0 : Value := (.int .i64 (Int.ofNat 0))
theorem m293_0 : outV ((jRunN CC 60).1 293 mA293_0 noneSt) = some mR293_0 := by kernel_rfl
noncomputable def mA293_1 : List Value := [(.agg ⟨[(.int .i64 (Int.ofNat 0)), (.int .i64 (Int.ofNat 1)), (.int .i64 (Int.negSucc 0)), (.int .i64 (Int.ofNat 0))]⟩)]
noncomputable def mR293_1 : Value := (.int .i64 (Int.ofNat 0))
theorem m293_1 : outV ((jRunN CC 60).1 293 mA293_1 noneSt) = some mR293_1 := by kernel_rfl
noncomputable def mT293 : List (List Value × Value) := [(mA293_0, mR293_0), (mA293_1, mR293_1)]
theorem mH293 : ∀ p ∈ mT293, ∃ s1, (runN CC 60).1 293 p.1 noneSt = some (p.2, s1) := by
  intro p hp
  rw [← jRunN_eq]
  unfold mT293 at hp
  rcases List.mem_cons.1 hp with rfl | hp
  · exact outV_some m293_0
  rcases List.mem_cons.1 hp with rfl | hp
  · exact outV_some m293_1
  exact absurd hp List.not_mem_nil
noncomputable def mA429_0 : List Value := [(.agg ⟨[(.int .i64 (Int.ofNat 0)), (.int .i64 (Int.ofNat 1)), (.int .i64 (Int.negSucc 0)), (.int .i64 (Int.ofNat 0))]⟩), (.agg ⟨[(.int .i64 (Int.ofNat 1)), (.int .i64 (Int.ofNat 1)), (.int .i64 (Int.negSucc 0)), (.int .i64 (Int.ofNat 0))]⟩)]
noncomputable def mR429_0 : Value := (.int .i64 (Int.negSucc 0))
theorem m429_0 : outV ((jRunN CC 60).1 429 mA429_0 noneSt) = some mR429_0 := by kernel_rfl
noncomputable def mA429_1 : List Value := [(.agg ⟨[(.int .i64 (Int.ofNat 1)), (.int .i64 (Int.ofNat 1)), (.int .i64 (Int.negSucc 0)), (.int .i64 (Int.ofNat 0))]⟩), (.agg ⟨[(.int .i64 (Int.ofNat 1)), (.int .i64 (Int.ofNat 1)), (.int .i64 (Int.negSucc 0)), (.int .i64 (Int.ofNat 0))]⟩)]
noncomputable def mR429_1 : Value := (.int .i64 (Int.ofNat 0))
theorem m429_1 : outV ((jRunN CC 60).1 429 mA429_1 noneSt) = some mR429_1 := by kernel_rfl
noncomputable def mA429_2 : List Value := [(.agg ⟨[(.int .i64 (Int.ofNat 0)), (.int .i64 (Int.ofNat 1)), (.int .i64 (Int.negSucc 0)), (.int .i64 (Int.ofNat 0))]⟩), (.agg ⟨[(.int .i64 (Int.ofNat 0)), (.int .i64 (Int.ofNat 1)), (.int .i64 (Int.negSucc 0)), (.int .i64 (Int.ofNat 0))]⟩)]
noncomputable def mR429_2 : Value := (.int .i64 (Int.ofNat 0))
theorem m429_2 : outV ((jRunN CC 60).1 429 mA429_2 noneSt) = some mR429_2 := by kernel_rfl
noncomputable def mA429_3 : List Value := [(.agg ⟨[(.int .i64 (Int.ofNat 1)), (.int .i64 (Int.ofNat 1)), (.int .i64 (Int.negSucc 0)), (.int .i64 (Int.ofNat 0))]⟩), (.agg ⟨[(.int .i64 (Int.ofNat 0)), (.int .i64 (Int.ofNat 1)), (.int .i64 (Int.negSucc 0)), (.int .i64 (Int.ofNat 0))]⟩)]
noncomputable def mR429_3 : Value := (.int .i64 (Int.ofNat 1))
theorem m429_3 : outV ((jRunN CC 60).1 429 mA429_3 noneSt) = some mR429_3 := by kernel_rfl
noncomputable def mT429 : List (List Value × Value) := [(mA429_0, mR429_0), (mA429_1, mR429_1), (mA429_2, mR429_2), (mA429_3, mR429_3)]
theorem mH429 : ∀ p ∈ mT429, ∃ s1, (runN CC 60).1 429 p.1 noneSt = some (p.2, s1) := by
  intro p hp
  rw [← jRunN_eq]
  unfold mT429 at hp
  rcases List.mem_cons.1 hp with rfl | hp
  · exact outV_some m429_0
  rcases List.mem_cons.1 hp with rfl | hp
  · exact outV_some m429_1
  rcases List.mem_cons.1 hp with rfl | hp
  · exact outV_some m429_2
  rcases List.mem_cons.1 hp with rfl | hp
  · exact outV_some m429_3
  exact absurd hp List.not_mem_nil
noncomputable def insTM : List (Nat × Con) := (81, .pure (memoG mT81)) :: (293, .pure (memoG mT293)) :: (429, .pure (memoG mT429)) :: insT
noncomputable def CM : Cfg := { CB with ext := lookN extT, insert := lookN insTM }
theorem cm_insert : ∀ f t, lookN insTM f = some t → ∀ args s v s', runCon CM t s args = some (v, s') → ∀ base ρ w cargs, HR Tryz.prog base ρ s w → VRs ρ args cargs →
    Calls Tryz.prog f ⟨cargs⟩ w fun e w' => ∃ c ρ', e = .returned c ∧ Goes Tryz.prog base ρ s w ρ' s' w' ∧ VR ρ' v c := by
  intro f t h args s v s' hv base ρ w cargs hr ha
  have h' := h
  replace h' : sel (Nat.beq 81 f) (some (Con.pure (memoG mT81))) (lookN ((293, .pure (memoG mT293)) :: (429, .pure (memoG mT429)) :: insT) f) = some t := h'
  rw [sel_eq] at h'
  split at h'
  · rename_i hb
    cases h'
    have hf : 81 = f := Nat.eq_of_beq_eq_true hb
    subst hf
    exact conPure_sound cc_ok (memo_hrun mH81) hv hr ha
  replace h' : sel (Nat.beq 293 f) (some (Con.pure (memoG mT293))) (lookN ((429, .pure (memoG mT429)) :: insT) f) = some t := h'
  rw [sel_eq] at h'
  split at h'
  · rename_i hb
    cases h'
    have hf : 293 = f := Nat.eq_of_beq_eq_true hb
    subst hf
    exact conPure_sound cc_ok (memo_hrun mH293) hv hr ha
  replace h' : sel (Nat.beq 429 f) (some (Con.pure (memoG mT429))) (lookN ( insT) f) = some t := h'
  rw [sel_eq] at h'
  split at h'
  · rename_i hb
    cases h'
    have hf : 429 = f := Nat.eq_of_beq_eq_true hb
    subst hf
    exact conPure_sound cc_ok (memo_hrun mH429) hv hr ha
  cases t with
  | insert e => exact cc_insert f _ h' args s v s' hv base ρ w cargs hr ha
  | closed ok => exact cc_insert f _ h' args s v s' hv base ρ w cargs hr ha
  | fn F => exact cc_insert f _ h' args s v s' hv base ρ w cargs hr ha
  | pure G => exact cc_insert f _ h' args s v s' hv base ρ w cargs hr ha
theorem cm_ok : CfgOk CM Tryz.prog := cfg_ok (ext := lookN extT) (ins := lookN insTM) rfl cm_insert (fun f e h base ρ s s' w args cargs v hr ha hv => cc_ok.ext f e h base ρ s s' w args cargs v hr ha hv)
end Go.Ax

