import Derived.Test.YtifhpiilobkjiaaGreatDoorDh
namespace Go.Ax
open Go Go.Proofs Go.RowKit
set_option maxHeartbeats 4000000
set_option maxRecDepth 100000
theorem ins163_place (b o n K i vb vo vc : Nat) (w w2 w3 : World) (x2 x3 : Value) (hi : i < n) (hK : n + 1 ≤ K) (hn2 : n + 1 ≤ 9223372036854775807)
    (hov : Sem.run Tryz.prog (callFunc 231 #[.slice (some ⟨vb, vo, none⟩) 1 vc, .slice (some ⟨b, o + (i + 1) * 34, none⟩) (n - i) (K - (i + 1))]) w = .ok (.value (.bool false)) w)
    (hcp : Hid (Sem.run Tryz.prog (Builtin.copy_ #[27, 27] 3 #[.slice (some ⟨b, o + (i + 1) * 34, none⟩) (n - i) (K - (i + 1)), .slice (some ⟨b, o + i * 34, none⟩) (n + 1 - i) (K - i)]) w.drew = .ok x2 w2))
    (hcp2 : Sem.run Tryz.prog (Builtin.copy_ #[27, 27] 3 #[.slice (some ⟨b, o + i * 34, none⟩) (n + 1 - i) (K - i), .slice (some ⟨vb, vo, none⟩) 1 vc]) w2 = .ok x3 w3) :
    Calls Tryz.prog 163 #[.slice (some ⟨b, o, none⟩) n K, .int .i64 i, .slice (some ⟨vb, vo, none⟩) 1 vc] w fun e w' => e = .returned (.slice (some ⟨b, o, none⟩) (n + 1) K) ∧ w' = w3 := by
  have e1 : ¬ K = i := by omega
  have e2 : ¬ K = i + 1 := by omega
  have e3 : ((i : Int) == (n : Int)) = false := by simp; omega
  have hic : i ≤ K := by omega
  have hwr : IntKind.i64.wrap ((i : Int) + 1) = (i : Int) + 1 := by rw [IntKind.wrap_i64]; omega
  have hp0 : (0 : Int) ≤ (i : Int) + 1 := by omega
  have hp1 : (i : Int) + 1 ≤ (n : Int) + 1 := by omega
  have hp2 : ((i : Int) + 1).toNat = i + 1 := by omega
  have hp3 : (i : Int) ≤ (n : Int) + 1 := by omega
  have hp4 : n + 1 - (i + 1) = n - i := by omega
  go_enter Tryz.func163, Tryz.ntmps163
  go_wp2
  go_region_law (refine step_copy_run rfl (.tmp 73) (.tmp 76) 27 27 rfl (by simp [Act.eval, Act.put]) (by simp [Act.eval, Act.put]) hcp.out ?_)
  go_wp2
  go_ret
  exact ⟨rfl, rfl⟩

theorem ins163_end (b o n K vb vo vc : Nat) (w w2 : World) (x2 : Value)
    (hap : Hid (Sem.run Tryz.prog (Builtin.append_ #[27, 27] 27 #[.slice (some ⟨b, o, none⟩) n K, .slice (some ⟨vb, vo, none⟩) 1 vc]) w = .ok x2 w2)) :
    Calls Tryz.prog 163 #[.slice (some ⟨b, o, none⟩) n K, .int .i64 n, .slice (some ⟨vb, vo, none⟩) 1 vc] w fun e w' => e = .returned x2 ∧ w' = w2 := by
  have e3 : ((n : Int) == (n : Int)) = true := by simp
  go_enter Tryz.func163, Tryz.ntmps163
  go_wp2_with (at_builtin; refine wpList_append_run rfl (.tmp 23) (.tmp 24) 27 27 rfl rfl rfl hap.out ?_)
  all_goals (go_ret; exact ⟨rfl, rfl⟩)

theorem ins163_grow (b o n K i vb vo vc g G : Nat) (w w2 w3 w4 : World) (x3 x4 : Value) (hi : i < n) (hn : n ≤ K) (hK : K < n + 1) (hK2 : n + 1 ≤ 9223372036854775807) (hG : n + 1 ≤ G)
    (hap : Hid (Sem.run Tryz.prog (Builtin.append_ #[27, 3] 27 #[.slice (some ⟨b, o, none⟩) i K, .int .i64 ((n : Int) + 1 - i)]) w = .ok (.slice (some ⟨g, 0, none⟩) (n + 1) G) w2))
    (hcp : Sem.run Tryz.prog (Builtin.copy_ #[27, 27] 3 #[.slice (some ⟨g, i * 34, none⟩) (n + 1 - i) (G - i), .slice (some ⟨vb, vo, none⟩) 1 vc]) w2 = .ok x3 w3)
    (hcp2 : Hid (Sem.run Tryz.prog (Builtin.copy_ #[27, 27] 3 #[.slice (some ⟨g, (i + 1) * 34, none⟩) (n - i) (G - (i + 1)), .slice (some ⟨b, o + i * 34, none⟩) (n - i) (K - i)]) w3.drew = .ok x4 w4)) :
    Calls Tryz.prog 163 #[.slice (some ⟨b, o, none⟩) n K, .int .i64 i, .slice (some ⟨vb, vo, none⟩) 1 vc] w fun e w' => e = .returned (.slice (some ⟨g, 0, none⟩) (n + 1) G) ∧ w' = w4 := by
  have e1 : ¬ K = i := by omega
  have e2 : ¬ G = i + 1 := by omega
  have e2' : ¬ G = i := by omega
  have e3 : ((i : Int) == (n : Int)) = false := by simp; omega
  have hic : i ≤ K := by omega
  have hwr : IntKind.i64.wrap ((i : Int) + 1) = (i : Int) + 1 := by rw [IntKind.wrap_i64]; omega
  have hp0 : (0 : Int) ≤ (i : Int) + 1 := by omega
  have hp1 : (i : Int) + 1 ≤ (n : Int) + 1 := by omega
  have hp2 : ((i : Int) + 1).toNat = i + 1 := by omega
  have hp3 : (i : Int) ≤ (n : Int) + 1 := by omega
  have hp5 : (i : Int) ≤ (n : Int) := by omega
  go_enter Tryz.func163, Tryz.ntmps163
  go_wp2_with (at_builtin; refine wpList_append_run rfl (.tmp 34) (.tmp 39) 27 3 rfl rfl rfl hap.out ?_)
  go_region_law (refine step_copy_run rfl (.tmp 50) (.tmp 53) 27 27 rfl (by simp [Act.eval, Act.put]) (by simp [Act.eval, Act.put]) hcp2.out ?_)
  go_wp2
  go_ret
  exact ⟨rfl, rfl⟩
theorem ins605_place (b o n K i vb vo vc : Nat) (w w2 w3 : World) (x2 x3 : Value) (hi : i < n) (hK : n + 1 ≤ K) (hn2 : n + 1 ≤ 9223372036854775807)
    (hov : Sem.run Tryz.prog (callFunc 624 #[.slice (some ⟨vb, vo, none⟩) 1 vc, .slice (some ⟨b, o + (i + 1) * 6, none⟩) (n - i) (K - (i + 1))]) w = .ok (.value (.bool false)) w)
    (hcp : Hid (Sem.run Tryz.prog (Builtin.copy_ #[132, 132] 3 #[.slice (some ⟨b, o + (i + 1) * 6, none⟩) (n - i) (K - (i + 1)), .slice (some ⟨b, o + i * 6, none⟩) (n + 1 - i) (K - i)]) w.drew = .ok x2 w2))
    (hcp2 : Sem.run Tryz.prog (Builtin.copy_ #[132, 132] 3 #[.slice (some ⟨b, o + i * 6, none⟩) (n + 1 - i) (K - i), .slice (some ⟨vb, vo, none⟩) 1 vc]) w2 = .ok x3 w3) :
    Calls Tryz.prog 605 #[.slice (some ⟨b, o, none⟩) n K, .int .i64 i, .slice (some ⟨vb, vo, none⟩) 1 vc] w fun e w' => e = .returned (.slice (some ⟨b, o, none⟩) (n + 1) K) ∧ w' = w3 := by
  have e1 : ¬ K = i := by omega
  have e2 : ¬ K = i + 1 := by omega
  have e3 : ((i : Int) == (n : Int)) = false := by simp; omega
  have hic : i ≤ K := by omega
  have hwr : IntKind.i64.wrap ((i : Int) + 1) = (i : Int) + 1 := by rw [IntKind.wrap_i64]; omega
  have hp0 : (0 : Int) ≤ (i : Int) + 1 := by omega
  have hp1 : (i : Int) + 1 ≤ (n : Int) + 1 := by omega
  have hp2 : ((i : Int) + 1).toNat = i + 1 := by omega
  have hp3 : (i : Int) ≤ (n : Int) + 1 := by omega
  have hp4 : n + 1 - (i + 1) = n - i := by omega
  go_enter Tryz.func605, Tryz.ntmps605
  go_wp2
  go_region_law (refine step_copy_run rfl (.tmp 73) (.tmp 76) 132 132 rfl (by simp [Act.eval, Act.put]) (by simp [Act.eval, Act.put]) hcp.out ?_)
  go_wp2
  go_ret
  exact ⟨rfl, rfl⟩

theorem ins605_end (b o n K vb vo vc : Nat) (w w2 : World) (x2 : Value)
    (hap : Hid (Sem.run Tryz.prog (Builtin.append_ #[132, 132] 132 #[.slice (some ⟨b, o, none⟩) n K, .slice (some ⟨vb, vo, none⟩) 1 vc]) w = .ok x2 w2)) :
    Calls Tryz.prog 605 #[.slice (some ⟨b, o, none⟩) n K, .int .i64 n, .slice (some ⟨vb, vo, none⟩) 1 vc] w fun e w' => e = .returned x2 ∧ w' = w2 := by
  have e3 : ((n : Int) == (n : Int)) = true := by simp
  go_enter Tryz.func605, Tryz.ntmps605
  go_wp2_with (at_builtin; refine wpList_append_run rfl (.tmp 23) (.tmp 24) 132 132 rfl rfl rfl hap.out ?_)
  all_goals (go_ret; exact ⟨rfl, rfl⟩)

theorem ins605_grow (b o n K i vb vo vc g G : Nat) (w w2 w3 w4 : World) (x3 x4 : Value) (hi : i < n) (hn : n ≤ K) (hK : K < n + 1) (hK2 : n + 1 ≤ 9223372036854775807) (hG : n + 1 ≤ G)
    (hap : Hid (Sem.run Tryz.prog (Builtin.append_ #[132, 3] 132 #[.slice (some ⟨b, o, none⟩) i K, .int .i64 ((n : Int) + 1 - i)]) w = .ok (.slice (some ⟨g, 0, none⟩) (n + 1) G) w2))
    (hcp : Sem.run Tryz.prog (Builtin.copy_ #[132, 132] 3 #[.slice (some ⟨g, i * 6, none⟩) (n + 1 - i) (G - i), .slice (some ⟨vb, vo, none⟩) 1 vc]) w2 = .ok x3 w3)
    (hcp2 : Hid (Sem.run Tryz.prog (Builtin.copy_ #[132, 132] 3 #[.slice (some ⟨g, (i + 1) * 6, none⟩) (n - i) (G - (i + 1)), .slice (some ⟨b, o + i * 6, none⟩) (n - i) (K - i)]) w3.drew = .ok x4 w4)) :
    Calls Tryz.prog 605 #[.slice (some ⟨b, o, none⟩) n K, .int .i64 i, .slice (some ⟨vb, vo, none⟩) 1 vc] w fun e w' => e = .returned (.slice (some ⟨g, 0, none⟩) (n + 1) G) ∧ w' = w4 := by
  have e1 : ¬ K = i := by omega
  have e2 : ¬ G = i + 1 := by omega
  have e2' : ¬ G = i := by omega
  have e3 : ((i : Int) == (n : Int)) = false := by simp; omega
  have hic : i ≤ K := by omega
  have hwr : IntKind.i64.wrap ((i : Int) + 1) = (i : Int) + 1 := by rw [IntKind.wrap_i64]; omega
  have hp0 : (0 : Int) ≤ (i : Int) + 1 := by omega
  have hp1 : (i : Int) + 1 ≤ (n : Int) + 1 := by omega
  have hp2 : ((i : Int) + 1).toNat = i + 1 := by omega
  have hp3 : (i : Int) ≤ (n : Int) + 1 := by omega
  have hp5 : (i : Int) ≤ (n : Int) := by omega
  go_enter Tryz.func605, Tryz.ntmps605
  go_wp2_with (at_builtin; refine wpList_append_run rfl (.tmp 34) (.tmp 39) 132 3 rfl rfl rfl hap.out ?_)
  go_region_law (refine step_copy_run rfl (.tmp 50) (.tmp 53) 132 132 rfl (by simp [Act.eval, Act.put]) (by simp [Act.eval, Act.put]) hcp2.out ?_)
  go_wp2
  go_ret
  exact ⟨rfl, rfl⟩
theorem ins607_place (b o n K i vb vo vc : Nat) (w w2 w3 : World) (x2 x3 : Value) (hi : i < n) (hK : n + 1 ≤ K) (hn2 : n + 1 ≤ 9223372036854775807)
    (hov : Sem.run Tryz.prog (callFunc 626 #[.slice (some ⟨vb, vo, none⟩) 1 vc, .slice (some ⟨b, o + (i + 1) * 6, none⟩) (n - i) (K - (i + 1))]) w = .ok (.value (.bool false)) w)
    (hcp : Hid (Sem.run Tryz.prog (Builtin.copy_ #[133, 133] 3 #[.slice (some ⟨b, o + (i + 1) * 6, none⟩) (n - i) (K - (i + 1)), .slice (some ⟨b, o + i * 6, none⟩) (n + 1 - i) (K - i)]) w.drew = .ok x2 w2))
    (hcp2 : Sem.run Tryz.prog (Builtin.copy_ #[133, 133] 3 #[.slice (some ⟨b, o + i * 6, none⟩) (n + 1 - i) (K - i), .slice (some ⟨vb, vo, none⟩) 1 vc]) w2 = .ok x3 w3) :
    Calls Tryz.prog 607 #[.slice (some ⟨b, o, none⟩) n K, .int .i64 i, .slice (some ⟨vb, vo, none⟩) 1 vc] w fun e w' => e = .returned (.slice (some ⟨b, o, none⟩) (n + 1) K) ∧ w' = w3 := by
  have e1 : ¬ K = i := by omega
  have e2 : ¬ K = i + 1 := by omega
  have e3 : ((i : Int) == (n : Int)) = false := by simp; omega
  have hic : i ≤ K := by omega
  have hwr : IntKind.i64.wrap ((i : Int) + 1) = (i : Int) + 1 := by rw [IntKind.wrap_i64]; omega
  have hp0 : (0 : Int) ≤ (i : Int) + 1 := by omega
  have hp1 : (i : Int) + 1 ≤ (n : Int) + 1 := by omega
  have hp2 : ((i : Int) + 1).toNat = i + 1 := by omega
  have hp3 : (i : Int) ≤ (n : Int) + 1 := by omega
  have hp4 : n + 1 - (i + 1) = n - i := by omega
  go_enter Tryz.func607, Tryz.ntmps607
  go_wp2
  go_region_law (refine step_copy_run rfl (.tmp 73) (.tmp 76) 133 133 rfl (by simp [Act.eval, Act.put]) (by simp [Act.eval, Act.put]) hcp.out ?_)
  go_wp2
  go_ret
  exact ⟨rfl, rfl⟩

theorem ins607_end (b o n K vb vo vc : Nat) (w w2 : World) (x2 : Value)
    (hap : Hid (Sem.run Tryz.prog (Builtin.append_ #[133, 133] 133 #[.slice (some ⟨b, o, none⟩) n K, .slice (some ⟨vb, vo, none⟩) 1 vc]) w = .ok x2 w2)) :
    Calls Tryz.prog 607 #[.slice (some ⟨b, o, none⟩) n K, .int .i64 n, .slice (some ⟨vb, vo, none⟩) 1 vc] w fun e w' => e = .returned x2 ∧ w' = w2 := by
  have e3 : ((n : Int) == (n : Int)) = true := by simp
  go_enter Tryz.func607, Tryz.ntmps607
  go_wp2_with (at_builtin; refine wpList_append_run rfl (.tmp 23) (.tmp 24) 133 133 rfl rfl rfl hap.out ?_)
  all_goals (go_ret; exact ⟨rfl, rfl⟩)

theorem ins607_grow (b o n K i vb vo vc g G : Nat) (w w2 w3 w4 : World) (x3 x4 : Value) (hi : i < n) (hn : n ≤ K) (hK : K < n + 1) (hK2 : n + 1 ≤ 9223372036854775807) (hG : n + 1 ≤ G)
    (hap : Hid (Sem.run Tryz.prog (Builtin.append_ #[133, 3] 133 #[.slice (some ⟨b, o, none⟩) i K, .int .i64 ((n : Int) + 1 - i)]) w = .ok (.slice (some ⟨g, 0, none⟩) (n + 1) G) w2))
    (hcp : Sem.run Tryz.prog (Builtin.copy_ #[133, 133] 3 #[.slice (some ⟨g, i * 6, none⟩) (n + 1 - i) (G - i), .slice (some ⟨vb, vo, none⟩) 1 vc]) w2 = .ok x3 w3)
    (hcp2 : Hid (Sem.run Tryz.prog (Builtin.copy_ #[133, 133] 3 #[.slice (some ⟨g, (i + 1) * 6, none⟩) (n - i) (G - (i + 1)), .slice (some ⟨b, o + i * 6, none⟩) (n - i) (K - i)]) w3.drew = .ok x4 w4)) :
    Calls Tryz.prog 607 #[.slice (some ⟨b, o, none⟩) n K, .int .i64 i, .slice (some ⟨vb, vo, none⟩) 1 vc] w fun e w' => e = .returned (.slice (some ⟨g, 0, none⟩) (n + 1) G) ∧ w' = w4 := by
  have e1 : ¬ K = i := by omega
  have e2 : ¬ G = i + 1 := by omega
  have e2' : ¬ G = i := by omega
  have e3 : ((i : Int) == (n : Int)) = false := by simp; omega
  have hic : i ≤ K := by omega
  have hwr : IntKind.i64.wrap ((i : Int) + 1) = (i : Int) + 1 := by rw [IntKind.wrap_i64]; omega
  have hp0 : (0 : Int) ≤ (i : Int) + 1 := by omega
  have hp1 : (i : Int) + 1 ≤ (n : Int) + 1 := by omega
  have hp2 : ((i : Int) + 1).toNat = i + 1 := by omega
  have hp3 : (i : Int) ≤ (n : Int) + 1 := by omega
  have hp5 : (i : Int) ≤ (n : Int) := by omega
  go_enter Tryz.func607, Tryz.ntmps607
  go_wp2_with (at_builtin; refine wpList_append_run rfl (.tmp 34) (.tmp 39) 133 3 rfl rfl rfl hap.out ?_)
  go_region_law (refine step_copy_run rfl (.tmp 50) (.tmp 53) 133 133 rfl (by simp [Act.eval, Act.put]) (by simp [Act.eval, Act.put]) hcp2.out ?_)
  go_wp2
  go_ret
  exact ⟨rfl, rfl⟩

end Go.Ax

