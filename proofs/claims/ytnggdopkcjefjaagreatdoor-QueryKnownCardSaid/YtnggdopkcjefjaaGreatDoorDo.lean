import Derived.Test.YtnggdopkcjefjaaGreatDoorDn
set_option maxRecDepth 1000000
namespace Go.Ax
open Go Go.Proofs
noncomputable def mA74_0 : List Value := [(.agg ⟨[(.int .i64 (Int.ofNat 4)), (.int .i64 (Int.ofNat 4)), (.int .i64 (Int.ofNat 2)), (.int .i64 (Int.ofNat 3)), (.int .i64 (Int.ofNat 7)), (.int .i64 (Int.ofNat 8)), (.int .i64 (Int.ofNat 2)), (.int .u64 (Int.ofNat 100000000)), (.int .u64 (Int.ofNat 0)), (.int .i64 (Int.ofNat 50)), (.int .u64 (Int.ofNat 100000000))]⟩)]
noncomputable def mR74_0 : Value := (.tuple ⟨[(.int .i64 (Int.ofNat 0)), (.int .i64 (Int.ofNat 0))]⟩)
theorem m74_0 : outV ((jRunN CC 60).1 74 mA74_0 noneSt) = some mR74_0 := by kernel_rfl
noncomputable def mA74_1 : List Value := [(.agg ⟨[(.int .i64 (Int.ofNat 0)), (.int .i64 (Int.ofNat 0)), (.int .i64 (Int.ofNat 0)), (.int .i64 (Int.ofNat 0)), (.int .i64 (Int.ofNat 0)), (.int .i64 (Int.ofNat 0)), (.int .i64 (Int.ofNat 0)), (.int .u64 (Int.ofNat 0)), (.int .u64 (Int.ofNat 0)), (.int .i64 (Int.ofNat 0)), (.int .u64 (Int.ofNat 0))]⟩)]
noncomputable def mR74_1 : Value := (.tuple ⟨[(.int .i64 (Int.ofNat 3)), (.int .i64 (Int.ofNat 0))]⟩)
theorem m74_1 : outV ((jRunN CC 60).1 74 mA74_1 noneSt) = some mR74_1 := by kernel_rfl
noncomputable def mT74 : List (List Value × Value) := [(mA74_0, mR74_0), (mA74_1, mR74_1)]
theorem mH74 : ∀ p ∈ mT74, ∃ s1, (runN CC 60).1 74 p.1 noneSt = some (p.2, s1) := by
  intro p hp
  rw [← jRunN_eq]
  unfold mT74 at hp
  rcases List.mem_cons.1 hp with rfl | hp
  · exact outV_some m74_0
  rcases List.mem_cons.1 hp with rfl | hp
  · exact outV_some m74_1
  exact absurd hp List.not_mem_nil
noncomputable def mA169_0 : List Value := [(.agg ⟨[(.int .i64 (Int.ofNat 0)), (.int .i64 (Int.ofNat 1)), (.int .i64 (Int.negSucc 0)), (.int .i64 (Int.ofNat 0))]⟩)]
noncomputable def mR169_0 : Value := (.int .i64 (Int.ofNat 0))
theorem m169_0 : outV ((jRunN CC 60).1 169 mA169_0 noneSt) = some mR169_0 := by kernel_rfl
noncomputable def mT169 : List (List Value × Value) := [(mA169_0, mR169_0)]
theorem mH169 : ∀ p ∈ mT169, ∃ s1, (runN CC 60).1 169 p.1 noneSt = some (p.2, s1) := by
  intro p hp
  rw [← jRunN_eq]
  unfold mT169 at hp
  rcases List.mem_cons.1 hp with rfl | hp
  · exact outV_some m169_0
  exact absurd hp List.not_mem_nil
noncomputable def mA456_0 : List Value := [(.agg ⟨[(.int .i64 (Int.ofNat 0)), (.int .i64 (Int.ofNat 1)), (.int .i64 (Int.negSucc 0)), (.int .i64 (Int.ofNat 0))]⟩), (.agg ⟨[(.int .i64 (Int.ofNat 0)), (.int .i64 (Int.ofNat 1)), (.int .i64 (Int.negSucc 0)), (.int .i64 (Int.ofNat 0))]⟩)]
noncomputable def mR456_0 : Value := (.int .i64 (Int.ofNat 0))
theorem m456_0 : outV ((jRunN CC 60).1 456 mA456_0 noneSt) = some mR456_0 := by kernel_rfl
noncomputable def mT456 : List (List Value × Value) := [(mA456_0, mR456_0)]
theorem mH456 : ∀ p ∈ mT456, ∃ s1, (runN CC 60).1 456 p.1 noneSt = some (p.2, s1) := by
  intro p hp
  rw [← jRunN_eq]
  unfold mT456 at hp
  rcases List.mem_cons.1 hp with rfl | hp
  · exact outV_some m456_0
  exact absurd hp List.not_mem_nil
noncomputable def insTM : List (Nat × Con) := (74, .pure (memoG mT74)) :: (169, .pure (memoG mT169)) :: (456, .pure (memoG mT456)) :: insT
noncomputable def CM : Cfg := { CB with ext := lookN extT, insert := lookN insTM }
theorem cm_insert : ∀ f t, lookN insTM f = some t → ∀ args s v s', runCon CM t s args = some (v, s') → ∀ base ρ w cargs, HR Tryz.prog base ρ s w → VRs ρ args cargs →
    Calls Tryz.prog f ⟨cargs⟩ w fun e w' => ∃ c ρ', e = .returned c ∧ Goes Tryz.prog base ρ s w ρ' s' w' ∧ VR ρ' v c := by
  intro f t h args s v s' hv base ρ w cargs hr ha
  have h' := h
  replace h' : sel (Nat.beq 74 f) (some (Con.pure (memoG mT74))) (lookN ((169, .pure (memoG mT169)) :: (456, .pure (memoG mT456)) :: insT) f) = some t := h'
  rw [sel_eq] at h'
  split at h'
  · rename_i hb
    cases h'
    have hf : 74 = f := Nat.eq_of_beq_eq_true hb
    subst hf
    exact conPure_sound cc_ok (memo_hrun mH74) hv hr ha
  replace h' : sel (Nat.beq 169 f) (some (Con.pure (memoG mT169))) (lookN ((456, .pure (memoG mT456)) :: insT) f) = some t := h'
  rw [sel_eq] at h'
  split at h'
  · rename_i hb
    cases h'
    have hf : 169 = f := Nat.eq_of_beq_eq_true hb
    subst hf
    exact conPure_sound cc_ok (memo_hrun mH169) hv hr ha
  replace h' : sel (Nat.beq 456 f) (some (Con.pure (memoG mT456))) (lookN ( insT) f) = some t := h'
  rw [sel_eq] at h'
  split at h'
  · rename_i hb
    cases h'
    have hf : 456 = f := Nat.eq_of_beq_eq_true hb
    subst hf
    exact conPure_sound cc_ok (memo_hrun mH456) hv hr ha
  cases t with
  | insert e => exact cc_insert f _ h' args s v s' hv base ρ w cargs hr ha
  | closed ok => exact cc_insert f _ h' args s v s' hv base ρ w cargs hr ha
  | fn F => exact cc_insert f _ h' args s v s' hv base ρ w cargs hr ha
  | pure G => exact cc_insert f _ h' args s v s' hv base ρ w cargs hr ha
theorem cm_ok : CfgOk CM Tryz.prog := cfg_ok (ext := lookN extT) (ins := lookN insTM) rfl cm_insert (fun f e h base ρ s s' w args cargs v hr ha hv => cc_ok.ext f e h base ρ s s' w args cargs v hr ha hv)
end Go.Ax

