import Derived.Test.YtnhpghifaafnkaaGreatDoorDn
set_option maxRecDepth 1000000
namespace Go.Ax
open Go Go.Proofs
noncomputable def mA111_0 : List Value := [(.agg ⟨[(.int .i64 (Int.ofNat 0)), (.int .i64 (Int.ofNat 0)), (.int .i64 (Int.ofNat 0)), (.int .u8 (Int.ofNat 0)), (.int .u8 (Int.ofNat 0)), (.int .u8 (Int.ofNat 0)), (.int .u8 (Int.ofNat 0)), (.int .u8 (Int.ofNat 0)), (.int .u8 (Int.ofNat 0)), (.int .u8 (Int.ofNat 0)), (.int .u8 (Int.ofNat 0)), (.int .u8 (Int.ofNat 0)), (.int .u8 (Int.ofNat 0)), (.int .u8 (Int.ofNat 0)), (.int .u8 (Int.ofNat 0)), (.int .u8 (Int.ofNat 0)), (.int .u8 (Int.ofNat 0)), (.int .u8 (Int.ofNat 0)), (.int .u8 (Int.ofNat 0)), (.int .u8 (Int.ofNat 0)), (.int .u8 (Int.ofNat 0)), (.int .u8 (Int.ofNat 0)), (.int .u8 (Int.ofNat 0)), (.int .u8 (Int.ofNat 0)), (.int .u8 (Int.ofNat 0)), (.int .u8 (Int.ofNat 0)), (.int .u8 (Int.ofNat 0)), (.int .u8 (Int.ofNat 0)), (.int .u8 (Int.ofNat 0)), (.int .u8 (Int.ofNat 0)), (.int .u8 (Int.ofNat 0)), (.int .u8 (Int.ofNat 0)), (.int .u8 (Int.ofNat 0)), (.int .u8 (Int.ofNat 0)), (.int .u8 (Int.ofNat 0)), (.int .u64 (Int.ofNat 1))]⟩)]
noncomputable def mR111_0 : Value := (.tuple ⟨[(.agg ⟨[(.int .u8 (Int.ofNat 246)), (.int .u8 (Int.ofNat 124)), (.int .u8 (Int.ofNat 231)), (.int .u8 (Int.ofNat 154)), (.int .u8 (Int.ofNat 145)), (.int .u8 (Int.ofNat 254)), (.int .u8 (Int.ofNat 85)), (.int .u8 (Int.ofNat 215)), (.int .u8 (Int.ofNat 199)), (.int .u8 (Int.ofNat 125)), (.int .u8 (Int.ofNat 29)), (.int .u8 (Int.ofNat 245)), (.int .u8 (Int.ofNat 240)), (.int .u8 (Int.ofNat 120)), (.int .u8 (Int.ofNat 70)), (.int .u8 (Int.ofNat 78)), (.int .u8 (Int.ofNat 100)), (.int .u8 (Int.ofNat 196)), (.int .u8 (Int.ofNat 182)), (.int .u8 (Int.ofNat 179)), (.int .u8 (Int.ofNat 216)), (.int .u8 (Int.ofNat 179)), (.int .u8 (Int.ofNat 178)), (.int .u8 (Int.ofNat 26)), (.int .u8 (Int.ofNat 103)), (.int .u8 (Int.ofNat 111)), (.int .u8 (Int.ofNat 66)), (.int .u8 (Int.ofNat 207)), (.int .u8 (Int.ofNat 96)), (.int .u8 (Int.ofNat 231)), (.int .u8 (Int.ofNat 91)), (.int .u8 (Int.ofNat 176))]⟩), (.int .i64 (Int.ofNat 0))]⟩)
theorem m111_0 : outV ((jRunN CC 60).1 111 mA111_0 noneSt) = some mR111_0 := by kernel_rfl
noncomputable def mA111_1 : List Value := [(.agg ⟨[(.int .i64 (Int.ofNat 0)), (.int .i64 (Int.ofNat 0)), (.int .i64 (Int.ofNat 0)), (.int .u8 (Int.ofNat 9)), (.int .u8 (Int.ofNat 0)), (.int .u8 (Int.ofNat 0)), (.int .u8 (Int.ofNat 0)), (.int .u8 (Int.ofNat 0)), (.int .u8 (Int.ofNat 0)), (.int .u8 (Int.ofNat 0)), (.int .u8 (Int.ofNat 0)), (.int .u8 (Int.ofNat 0)), (.int .u8 (Int.ofNat 0)), (.int .u8 (Int.ofNat 0)), (.int .u8 (Int.ofNat 0)), (.int .u8 (Int.ofNat 0)), (.int .u8 (Int.ofNat 0)), (.int .u8 (Int.ofNat 0)), (.int .u8 (Int.ofNat 0)), (.int .u8 (Int.ofNat 0)), (.int .u8 (Int.ofNat 0)), (.int .u8 (Int.ofNat 0)), (.int .u8 (Int.ofNat 0)), (.int .u8 (Int.ofNat 0)), (.int .u8 (Int.ofNat 0)), (.int .u8 (Int.ofNat 0)), (.int .u8 (Int.ofNat 0)), (.int .u8 (Int.ofNat 0)), (.int .u8 (Int.ofNat 0)), (.int .u8 (Int.ofNat 0)), (.int .u8 (Int.ofNat 0)), (.int .u8 (Int.ofNat 0)), (.int .u8 (Int.ofNat 0)), (.int .u8 (Int.ofNat 0)), (.int .u8 (Int.ofNat 0)), (.int .u64 (Int.ofNat 2))]⟩)]
noncomputable def mR111_1 : Value := (.tuple ⟨[(.agg ⟨[(.int .u8 (Int.ofNat 142)), (.int .u8 (Int.ofNat 56)), (.int .u8 (Int.ofNat 83)), (.int .u8 (Int.ofNat 81)), (.int .u8 (Int.ofNat 182)), (.int .u8 (Int.ofNat 156)), (.int .u8 (Int.ofNat 84)), (.int .u8 (Int.ofNat 240)), (.int .u8 (Int.ofNat 27)), (.int .u8 (Int.ofNat 82)), (.int .u8 (Int.ofNat 199)), (.int .u8 (Int.ofNat 250)), (.int .u8 (Int.ofNat 72)), (.int .u8 (Int.ofNat 136)), (.int .u8 (Int.ofNat 95)), (.int .u8 (Int.ofNat 166)), (.int .u8 (Int.ofNat 187)), (.int .u8 (Int.ofNat 85)), (.int .u8 (Int.ofNat 83)), (.int .u8 (Int.ofNat 238)), (.int .u8 (Int.ofNat 196)), (.int .u8 (Int.ofNat 21)), (.int .u8 (Int.ofNat 213)), (.int .u8 (Int.ofNat 148)), (.int .u8 (Int.ofNat 2)), (.int .u8 (Int.ofNat 66)), (.int .u8 (Int.ofNat 4)), (.int .u8 (Int.ofNat 212)), (.int .u8 (Int.ofNat 208)), (.int .u8 (Int.ofNat 72)), (.int .u8 (Int.ofNat 200)), (.int .u8 (Int.ofNat 182))]⟩), (.int .i64 (Int.ofNat 0))]⟩)
theorem m111_1 : outV ((jRunN CC 60).1 111 mA111_1 noneSt) = some mR111_1 := by kernel_rfl
noncomputable def mT111 : List (List Value × Value) := [(mA111_0, mR111_0), (mA111_1, mR111_1)]
theorem mH111 : ∀ p ∈ mT111, ∃ s1, (runN CC 60).1 111 p.1 noneSt = some (p.2, s1) := by
  intro p hp
  rw [← jRunN_eq]
  unfold mT111 at hp
  rcases List.mem_cons.1 hp with rfl | hp
  · exact outV_some m111_0
  rcases List.mem_cons.1 hp with rfl | hp
  · exact outV_some m111_1
  exact absurd hp List.not_mem_nil
noncomputable def mA82_0 : List Value := [(.agg ⟨[(.int .i64 (Int.ofNat 4)), (.int .i64 (Int.ofNat 4)), (.int .i64 (Int.ofNat 2)), (.int .i64 (Int.ofNat 3)), (.int .i64 (Int.ofNat 7)), (.int .i64 (Int.ofNat 8)), (.int .i64 (Int.ofNat 2)), (.int .u64 (Int.ofNat 100000000)), (.int .u64 (Int.ofNat 0)), (.int .i64 (Int.ofNat 50)), (.int .u64 (Int.ofNat 100000000))]⟩)]
noncomputable def mR82_0 : Value := (.tuple ⟨[(.int .i64 (Int.ofNat 0)), (.int .i64 (Int.ofNat 0))]⟩)
theorem m82_0 : outV ((jRunN CC 60).1 82 mA82_0 noneSt) = some mR82_0 := by kernel_rfl
noncomputable def mT82 : List (List Value × Value) := [(mA82_0, mR82_0)]
theorem mH82 : ∀ p ∈ mT82, ∃ s1, (runN CC 60).1 82 p.1 noneSt = some (p.2, s1) := by
  intro p hp
  rw [← jRunN_eq]
  unfold mT82 at hp
  rcases List.mem_cons.1 hp with rfl | hp
  · exact outV_some m82_0
  exact absurd hp List.not_mem_nil
noncomputable def mA310_0 : List Value := [(.agg ⟨[(.int .i64 (Int.ofNat 0)), (.int .i64 (Int.ofNat 1)), (.int .i64 (Int.negSucc 0)), (.int .i64 (Int.ofNat 0))]⟩), (.agg ⟨[(.int .i64 (Int.ofNat 0)), (.int .i64 (Int.ofNat 1)), (.int .i64 (Int.negSucc 0)), (.int .i64 (Int.ofNat 0))]⟩)]
noncomputable def mR310_0 : Value := (.int .i64 (Int.ofNat 0))
theorem m310_0 : outV ((jRunN CC 60).1 310 mA310_0 noneSt) = some mR310_0 := by kernel_rfl
noncomputable def mT310 : List (List Value × Value) := [(mA310_0, mR310_0)]
theorem mH310 : ∀ p ∈ mT310, ∃ s1, (runN CC 60).1 310 p.1 noneSt = some (p.2, s1) := by
  intro p hp
  rw [← jRunN_eq]
  unfold mT310 at hp
  rcases List.mem_cons.1 hp with rfl | hp
  · exact outV_some m310_0
  exact absurd hp List.not_mem_nil
noncomputable def insTM : List (Nat × Con) := (111, .pure (memoG mT111)) :: (82, .pure (memoG mT82)) :: (310, .pure (memoG mT310)) :: insT
noncomputable def CM : Cfg := { CB with ext := lookN extT, insert := lookN insTM }
theorem cm_insert : ∀ f t, lookN insTM f = some t → ∀ args s v s', runCon CM t s args = some (v, s') → ∀ base ρ w cargs, HR Tryz.prog base ρ s w → VRs ρ args cargs →
    Calls Tryz.prog f ⟨cargs⟩ w fun e w' => ∃ c ρ', e = .returned c ∧ Goes Tryz.prog base ρ s w ρ' s' w' ∧ VR ρ' v c := by
  intro f t h args s v s' hv base ρ w cargs hr ha
  have h' := h
  replace h' : sel (Nat.beq 111 f) (some (Con.pure (memoG mT111))) (lookN ((82, .pure (memoG mT82)) :: (310, .pure (memoG mT310)) :: insT) f) = some t := h'
  rw [sel_eq] at h'
  split at h'
  · rename_i hb
    cases h'
    have hf : 111 = f := Nat.eq_of_beq_eq_true hb
    subst hf
    exact conPure_sound cc_ok (memo_hrun mH111) hv hr ha
  replace h' : sel (Nat.beq 82 f) (some (Con.pure (memoG mT82))) (lookN ((310, .pure (memoG mT310)) :: insT) f) = some t := h'
  rw [sel_eq] at h'
  split at h'
  · rename_i hb
    cases h'
    have hf : 82 = f := Nat.eq_of_beq_eq_true hb
    subst hf
    exact conPure_sound cc_ok (memo_hrun mH82) hv hr ha
  replace h' : sel (Nat.beq 310 f) (some (Con.pure (memoG mT310))) (lookN ( insT) f) = some t := h'
  rw [sel_eq] at h'
  split at h'
  · rename_i hb
    cases h'
    have hf : 310 = f := Nat.eq_of_beq_eq_true hb
    subst hf
    exact conPure_sound cc_ok (memo_hrun mH310) hv hr ha
  cases t with
  | insert e => exact cc_insert f _ h' args s v s' hv base ρ w cargs hr ha
  | closed ok => exact cc_insert f _ h' args s v s' hv base ρ w cargs hr ha
  | fn F => exact cc_insert f _ h' args s v s' hv base ρ w cargs hr ha
  | pure G => exact cc_insert f _ h' args s v s' hv base ρ w cargs hr ha
theorem cm_ok : CfgOk CM Tryz.prog := cfg_ok (ext := lookN extT) (ins := lookN insTM) rfl cm_insert (fun f e h base ρ s s' w args cargs v hr ha hv => cc_ok.ext f e h base ρ s s' w args cargs v hr ha hv)
end Go.Ax

