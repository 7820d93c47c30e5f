import Derived.Test.YthghfgcpdblgcaaGreatDoorDg
set_option maxRecDepth 1000000
namespace Go.Ax
open Go Go.Proofs
noncomputable def atG (args : List Value) : Option Value :=
  match args with
  | [.int .i64 x, .int .i64 y] => some (.int .i64 (wrap .i64 (addI (remI x 5) (wrap .i64 (mulI 5 (remI y 5))))))
  | _ => none
noncomputable def rotF (x k : Nat) : Nat := Nat.lor (Nat.mod (Nat.mod (Nat.mul x (Nat.pow 2 k)) 18446744073709551616) 18446744073709551616) (Nat.mod (Nat.div x (Nat.pow 2 (Nat.sub 64 k))) 18446744073709551616)
noncomputable def rotKs : List Nat := [0, 1, 2, 3, 6, 8, 10, 14, 15, 18, 20, 21, 25, 27, 28, 36, 39, 41, 43, 44, 45, 55, 56, 61, 62]
noncomputable def rotG (args : List Value) : Option Value :=
  match args with
  | [.int .u64 x, .int .i64 k] => Int.casesOn x (fun x => Int.casesOn k (fun k => guard (memN rotKs k) (some (.int .u64 (Int.ofNat (rotF x k))))) (fun _ => none)) (fun _ => none)
  | _ => none
noncomputable def outV (r : Option (Value × St)) : Option Value := obind r fun q => some q.1
noncomputable def out64 (r : Option (Value × St)) : Option (Value × List Value × TypeId × Nat) := obind r fun q => obind (q.2.cells 64) fun c => some (q.1, c)
theorem outV_some {r : Option (Value × St)} {v : Value} (h : outV r = some v) : ∃ s, r = some (v, s) := by
  obtain ⟨⟨v', s⟩, hr, h⟩ := obind_some.1 h
  cases h
  exact ⟨s, hr⟩
theorem out64_some {r : Option (Value × St)} {v : Value} {cs : List Value} {t : TypeId} (h : out64 r = some (v, cs, t, 0)) : ∃ s, r = some (v, s) ∧ s.cells 64 = some (cs, t, 0) := by
  obtain ⟨⟨v', s⟩, hr, h⟩ := obind_some.1 h
  obtain ⟨c, hc, h⟩ := obind_some.1 h
  cases h
  exact ⟨s, hr, hc⟩
theorem at_run (x y : Int) : outV ((runN CB 3).1 436 [.int .i64 x, .int .i64 y] noneSt) = atG [.int .i64 x, .int .i64 y] := by kernel_rfl
theorem at_hrun : ∀ args v, freeAll args = true → atG args = some v → ∃ s1, (runN CB 3).1 436 args noneSt = some (v, s1) := by
  intro args v hfr h
  unfold atG at h
  split at h
  · rename_i x y
    exact outV_some ((at_run x y).trans h)
  · cases h
theorem rot_0 (x : Nat) : outV ((runN CB 3).1 437 [.int .u64 (Int.ofNat x), .int .i64 (Int.ofNat 0)] noneSt) = some (.int .u64 (Int.ofNat (rotF x 0))) := by kernel_rfl
theorem rot_1 (x : Nat) : outV ((runN CB 3).1 437 [.int .u64 (Int.ofNat x), .int .i64 (Int.ofNat 1)] noneSt) = some (.int .u64 (Int.ofNat (rotF x 1))) := by kernel_rfl
theorem rot_2 (x : Nat) : outV ((runN CB 3).1 437 [.int .u64 (Int.ofNat x), .int .i64 (Int.ofNat 2)] noneSt) = some (.int .u64 (Int.ofNat (rotF x 2))) := by kernel_rfl
theorem rot_3 (x : Nat) : outV ((runN CB 3).1 437 [.int .u64 (Int.ofNat x), .int .i64 (Int.ofNat 3)] noneSt) = some (.int .u64 (Int.ofNat (rotF x 3))) := by kernel_rfl
theorem rot_6 (x : Nat) : outV ((runN CB 3).1 437 [.int .u64 (Int.ofNat x), .int .i64 (Int.ofNat 6)] noneSt) = some (.int .u64 (Int.ofNat (rotF x 6))) := by kernel_rfl
theorem rot_8 (x : Nat) : outV ((runN CB 3).1 437 [.int .u64 (Int.ofNat x), .int .i64 (Int.ofNat 8)] noneSt) = some (.int .u64 (Int.ofNat (rotF x 8))) := by kernel_rfl
theorem rot_10 (x : Nat) : outV ((runN CB 3).1 437 [.int .u64 (Int.ofNat x), .int .i64 (Int.ofNat 10)] noneSt) = some (.int .u64 (Int.ofNat (rotF x 10))) := by kernel_rfl
theorem rot_14 (x : Nat) : outV ((runN CB 3).1 437 [.int .u64 (Int.ofNat x), .int .i64 (Int.ofNat 14)] noneSt) = some (.int .u64 (Int.ofNat (rotF x 14))) := by kernel_rfl
theorem rot_15 (x : Nat) : outV ((runN CB 3).1 437 [.int .u64 (Int.ofNat x), .int .i64 (Int.ofNat 15)] noneSt) = some (.int .u64 (Int.ofNat (rotF x 15))) := by kernel_rfl
theorem rot_18 (x : Nat) : outV ((runN CB 3).1 437 [.int .u64 (Int.ofNat x), .int .i64 (Int.ofNat 18)] noneSt) = some (.int .u64 (Int.ofNat (rotF x 18))) := by kernel_rfl
theorem rot_20 (x : Nat) : outV ((runN CB 3).1 437 [.int .u64 (Int.ofNat x), .int .i64 (Int.ofNat 20)] noneSt) = some (.int .u64 (Int.ofNat (rotF x 20))) := by kernel_rfl
theorem rot_21 (x : Nat) : outV ((runN CB 3).1 437 [.int .u64 (Int.ofNat x), .int .i64 (Int.ofNat 21)] noneSt) = some (.int .u64 (Int.ofNat (rotF x 21))) := by kernel_rfl
theorem rot_25 (x : Nat) : outV ((runN CB 3).1 437 [.int .u64 (Int.ofNat x), .int .i64 (Int.ofNat 25)] noneSt) = some (.int .u64 (Int.ofNat (rotF x 25))) := by kernel_rfl
theorem rot_27 (x : Nat) : outV ((runN CB 3).1 437 [.int .u64 (Int.ofNat x), .int .i64 (Int.ofNat 27)] noneSt) = some (.int .u64 (Int.ofNat (rotF x 27))) := by kernel_rfl
theorem rot_28 (x : Nat) : outV ((runN CB 3).1 437 [.int .u64 (Int.ofNat x), .int .i64 (Int.ofNat 28)] noneSt) = some (.int .u64 (Int.ofNat (rotF x 28))) := by kernel_rfl
theorem rot_36 (x : Nat) : outV ((runN CB 3).1 437 [.int .u64 (Int.ofNat x), .int .i64 (Int.ofNat 36)] noneSt) = some (.int .u64 (Int.ofNat (rotF x 36))) := by kernel_rfl
theorem rot_39 (x : Nat) : outV ((runN CB 3).1 437 [.int .u64 (Int.ofNat x), .int .i64 (Int.ofNat 39)] noneSt) = some (.int .u64 (Int.ofNat (rotF x 39))) := by kernel_rfl
theorem rot_41 (x : Nat) : outV ((runN CB 3).1 437 [.int .u64 (Int.ofNat x), .int .i64 (Int.ofNat 41)] noneSt) = some (.int .u64 (Int.ofNat (rotF x 41))) := by kernel_rfl
theorem rot_43 (x : Nat) : outV ((runN CB 3).1 437 [.int .u64 (Int.ofNat x), .int .i64 (Int.ofNat 43)] noneSt) = some (.int .u64 (Int.ofNat (rotF x 43))) := by kernel_rfl
theorem rot_44 (x : Nat) : outV ((runN CB 3).1 437 [.int .u64 (Int.ofNat x), .int .i64 (Int.ofNat 44)] noneSt) = some (.int .u64 (Int.ofNat (rotF x 44))) := by kernel_rfl
theorem rot_45 (x : Nat) : outV ((runN CB 3).1 437 [.int .u64 (Int.ofNat x), .int .i64 (Int.ofNat 45)] noneSt) = some (.int .u64 (Int.ofNat (rotF x 45))) := by kernel_rfl
theorem rot_55 (x : Nat) : outV ((runN CB 3).1 437 [.int .u64 (Int.ofNat x), .int .i64 (Int.ofNat 55)] noneSt) = some (.int .u64 (Int.ofNat (rotF x 55))) := by kernel_rfl
theorem rot_56 (x : Nat) : outV ((runN CB 3).1 437 [.int .u64 (Int.ofNat x), .int .i64 (Int.ofNat 56)] noneSt) = some (.int .u64 (Int.ofNat (rotF x 56))) := by kernel_rfl
theorem rot_61 (x : Nat) : outV ((runN CB 3).1 437 [.int .u64 (Int.ofNat x), .int .i64 (Int.ofNat 61)] noneSt) = some (.int .u64 (Int.ofNat (rotF x 61))) := by kernel_rfl
theorem rot_62 (x : Nat) : outV ((runN CB 3).1 437 [.int .u64 (Int.ofNat x), .int .i64 (Int.ofNat 62)] noneSt) = some (.int .u64 (Int.ofNat (rotF x 62))) := by kernel_rfl
theorem rot_run (x k : Nat) (h : k ∈ rotKs) : outV ((runN CB 3).1 437 [.int .u64 (Int.ofNat x), .int .i64 (Int.ofNat k)] noneSt) = some (.int .u64 (Int.ofNat (rotF x k))) := by
  unfold rotKs at h
  simp only [List.mem_cons, List.not_mem_nil, or_false] at h
  rcases h with rfl | rfl | rfl | rfl | rfl | rfl | rfl | rfl | rfl | rfl | rfl | rfl | rfl | rfl | rfl | rfl | rfl | rfl | rfl | rfl | rfl | rfl | rfl | rfl | rfl
  · exact rot_0 x
  · exact rot_1 x
  · exact rot_2 x
  · exact rot_3 x
  · exact rot_6 x
  · exact rot_8 x
  · exact rot_10 x
  · exact rot_14 x
  · exact rot_15 x
  · exact rot_18 x
  · exact rot_20 x
  · exact rot_21 x
  · exact rot_25 x
  · exact rot_27 x
  · exact rot_28 x
  · exact rot_36 x
  · exact rot_39 x
  · exact rot_41 x
  · exact rot_43 x
  · exact rot_44 x
  · exact rot_45 x
  · exact rot_55 x
  · exact rot_56 x
  · exact rot_61 x
  · exact rot_62 x
theorem rot_hrun : ∀ args v, freeAll args = true → rotG args = some v → ∃ s1, (runN CB 3).1 437 args noneSt = some (v, s1) := by
  intro args v hfr h
  unfold rotG at h
  split at h
  · rename_i x k
    cases x with
    | negSucc x => cases h
    | ofNat x => cases k with
      | negSucc k => cases h
      | ofNat k =>
        obtain ⟨hk, h⟩ := guard_some.1 h
        cases h
        exact outV_some (rot_run x k (memN_mem hk))
  · cases h
noncomputable def insP : List (Nat × Con) := [(436, .pure atG), (437, .pure rotG)]
noncomputable def CP : Cfg := { CB with insert := lookN insP }
theorem cp_ok : CfgOk CP Tryz.prog := cfg_ok (ext := fun _ => none) (ins := lookN insP) rfl (fun f t h args s v s' hv base ρ w cargs hr ha => by
  have h := lookN_mem h
  unfold insP at h
  rcases List.mem_cons.1 h with h | h
  · cases h
    exact conPure_sound cb_ok at_hrun hv hr ha
  · rcases List.mem_cons.1 h with h | h
    · cases h
      exact conPure_sound cb_ok rot_hrun hv hr ha
    · exact absurd h List.not_mem_nil) (fun _ _ h => by cases h)
end Go.Ax
