import Derived.Test.YtifhpiilobkjiaaGreatDoorDp
set_option maxRecDepth 1000000
namespace Go.Ax
open Go Go.Proofs
noncomputable def mA17_0 : List Value := [(.string ⟨⟨[10]⟩⟩), (.string ⟨⟨[10]⟩⟩)]
noncomputable def mR17_0 : Value := (.string ⟨⟨[]⟩⟩)
theorem m17_0 : outV ((jRunN CC 60).1 17 mA17_0 noneSt) = some mR17_0 := by kernel_rfl
noncomputable def mA17_1 : List Value := [(.string ⟨⟨[104, 101, 105, 103, 104, 116]⟩⟩), (.string ⟨⟨[10]⟩⟩)]
noncomputable def mR17_1 : Value := (.string ⟨⟨[104, 101, 105, 103, 104, 116]⟩⟩)
theorem m17_1 : outV ((jRunN CC 60).1 17 mA17_1 noneSt) = some mR17_1 := by kernel_rfl
noncomputable def mT17 : List (List Value × Value) := [(mA17_0, mR17_0), (mA17_1, mR17_1)]
theorem mH17 : ∀ p ∈ mT17, ∃ s1, (runN CC 60).1 17 p.1 noneSt = some (p.2, s1) := by
  intro p hp
  rw [← jRunN_eq]
  unfold mT17 at hp
  rcases List.mem_cons.1 hp with rfl | hp
  · exact outV_some m17_0
  rcases List.mem_cons.1 hp with rfl | hp
  · exact outV_some m17_1
  exact absurd hp List.not_mem_nil
noncomputable def mA103_0 : List Value := [(.agg ⟨[(.int .i64 (Int.ofNat 100)), (.int .i64 (Int.ofNat 100)), (.int .i64 (Int.ofNat 2)), (.int .i64 (Int.ofNat 8)), (.int .i64 (Int.ofNat 7)), (.int .i64 (Int.ofNat 8)), (.int .i64 (Int.ofNat 20)), (.int .u64 (Int.ofNat 50000000)), (.int .u64 (Int.ofNat 3)), (.int .i64 (Int.ofNat 50)), (.int .u64 (Int.ofNat 100000000))]⟩)]
noncomputable def mR103_0 : Value := (.tuple ⟨[(.int .i64 (Int.ofNat 0)), (.int .i64 (Int.ofNat 0))]⟩)
theorem m103_0 : outV ((jRunN CC 60).1 103 mA103_0 noneSt) = some mR103_0 := by kernel_rfl
noncomputable def mA103_1 : List Value := [(.agg ⟨[(.int .i64 (Int.ofNat 100)), (.int .i64 (Int.ofNat 100)), (.int .i64 (Int.ofNat 10)), (.int .i64 (Int.ofNat 8)), (.int .i64 (Int.ofNat 7)), (.int .i64 (Int.ofNat 8)), (.int .i64 (Int.ofNat 20)), (.int .u64 (Int.ofNat 50000000)), (.int .u64 (Int.ofNat 3)), (.int .i64 (Int.ofNat 50)), (.int .u64 (Int.ofNat 100000000))]⟩)]
noncomputable def mR103_1 : Value := (.tuple ⟨[(.int .i64 (Int.ofNat 0)), (.int .i64 (Int.ofNat 0))]⟩)
theorem m103_1 : outV ((jRunN CC 60).1 103 mA103_1 noneSt) = some mR103_1 := by kernel_rfl
noncomputable def mT103 : List (List Value × Value) := [(mA103_0, mR103_0), (mA103_1, mR103_1)]
theorem mH103 : ∀ p ∈ mT103, ∃ s1, (runN CC 60).1 103 p.1 noneSt = some (p.2, s1) := by
  intro p hp
  rw [← jRunN_eq]
  unfold mT103 at hp
  rcases List.mem_cons.1 hp with rfl | hp
  · exact outV_some m103_0
  rcases List.mem_cons.1 hp with rfl | hp
  · exact outV_some m103_1
  exact absurd hp List.not_mem_nil
noncomputable def mA260_0 : List Value := [(.agg ⟨[(.int .i64 (Int.ofNat 0)), (.int .i64 (Int.ofNat 1)), (.int .i64 (Int.negSucc 0)), (.int .i64 (Int.ofNat 0))]⟩)]
noncomputable def mR260_0 : Value := (.int .i64 (Int.ofNat 0))
theorem m260_0 : outV ((jRunN CC 60).1 260 mA260_0 noneSt) = some mR260_0 := by kernel_rfl
noncomputable def mT260 : List (List Value × Value) := [(mA260_0, mR260_0)]
theorem mH260 : ∀ p ∈ mT260, ∃ s1, (runN CC 60).1 260 p.1 noneSt = some (p.2, s1) := by
  intro p hp
  rw [← jRunN_eq]
  unfold mT260 at hp
  rcases List.mem_cons.1 hp with rfl | hp
  · exact outV_some m260_0
  exact absurd hp List.not_mem_nil
noncomputable def mA371_0 : List Value := [(.agg ⟨[(.int .i64 (Int.ofNat 0)), (.int .i64 (Int.ofNat 1)), (.int .i64 (Int.negSucc 0)), (.int .i64 (Int.ofNat 0))]⟩), (.agg ⟨[(.int .i64 (Int.ofNat 0)), (.int .i64 (Int.ofNat 1)), (.int .i64 (Int.negSucc 0)), (.int .i64 (Int.ofNat 0))]⟩)]
noncomputable def mR371_0 : Value := (.int .i64 (Int.ofNat 0))
theorem m371_0 : outV ((jRunN CC 60).1 371 mA371_0 noneSt) = some mR371_0 := by kernel_rfl
noncomputable def mT371 : List (List Value × Value) := [(mA371_0, mR371_0)]
theorem mH371 : ∀ p ∈ mT371, ∃ s1, (runN CC 60).1 371 p.1 noneSt = some (p.2, s1) := by
  intro p hp
  rw [← jRunN_eq]
  unfold mT371 at hp
  rcases List.mem_cons.1 hp with rfl | hp
  · exact outV_some m371_0
  exact absurd hp List.not_mem_nil
noncomputable def insTM : List (Nat × Con) := (17, .pure (memoG mT17)) :: (103, .pure (memoG mT103)) :: (260, .pure (memoG mT260)) :: (371, .pure (memoG mT371)) :: insT
noncomputable def CM : Cfg := { CB with ext := lookN extT, insert := lookN insTM }
theorem cm_insert : ∀ f t, lookN insTM f = some t → ∀ args s v s', runCon CM t s args = some (v, s') → ∀ base ρ w cargs, HR Tryz.prog base ρ s w → VRs ρ args cargs →
    Calls Tryz.prog f ⟨cargs⟩ w fun e w' => ∃ c ρ', e = .returned c ∧ Goes Tryz.prog base ρ s w ρ' s' w' ∧ VR ρ' v c := by
  intro f t h args s v s' hv base ρ w cargs hr ha
  have h' := h
  replace h' : sel (Nat.beq 17 f) (some (Con.pure (memoG mT17))) (lookN ((103, .pure (memoG mT103)) :: (260, .pure (memoG mT260)) :: (371, .pure (memoG mT371)) :: insT) f) = some t := h'
  rw [sel_eq] at h'
  split at h'
  · rename_i hb
    cases h'
    have hf : 17 = f := Nat.eq_of_beq_eq_true hb
    subst hf
    exact conPure_sound cc_ok (memo_hrun mH17) hv hr ha
  replace h' : sel (Nat.beq 103 f) (some (Con.pure (memoG mT103))) (lookN ((260, .pure (memoG mT260)) :: (371, .pure (memoG mT371)) :: insT) f) = some t := h'
  rw [sel_eq] at h'
  split at h'
  · rename_i hb
    cases h'
    have hf : 103 = f := Nat.eq_of_beq_eq_true hb
    subst hf
    exact conPure_sound cc_ok (memo_hrun mH103) hv hr ha
  replace h' : sel (Nat.beq 260 f) (some (Con.pure (memoG mT260))) (lookN ((371, .pure (memoG mT371)) :: insT) f) = some t := h'
  rw [sel_eq] at h'
  split at h'
  · rename_i hb
    cases h'
    have hf : 260 = f := Nat.eq_of_beq_eq_true hb
    subst hf
    exact conPure_sound cc_ok (memo_hrun mH260) hv hr ha
  replace h' : sel (Nat.beq 371 f) (some (Con.pure (memoG mT371))) (lookN ( insT) f) = some t := h'
  rw [sel_eq] at h'
  split at h'
  · rename_i hb
    cases h'
    have hf : 371 = f := Nat.eq_of_beq_eq_true hb
    subst hf
    exact conPure_sound cc_ok (memo_hrun mH371) hv hr ha
  cases t with
  | insert e => exact cc_insert f _ h' args s v s' hv base ρ w cargs hr ha
  | closed ok => exact cc_insert f _ h' args s v s' hv base ρ w cargs hr ha
  | fn F => exact cc_insert f _ h' args s v s' hv base ρ w cargs hr ha
  | pure G => exact cc_insert f _ h' args s v s' hv base ρ w cargs hr ha
theorem cm_ok : CfgOk CM Tryz.prog := cfg_ok (ext := lookN extT) (ins := lookN insTM) rfl cm_insert (fun f e h base ρ s s' w args cargs v hr ha hv => cc_ok.ext f e h base ρ s s' w args cargs v hr ha hv)
end Go.Ax

