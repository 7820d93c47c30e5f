import Derived.Test.YthghfgcpdblgcaaGreatDoorProg
import Derived.WalkKit
import Derived.KernelRfl
import Derived.Deep.RegionLaw
set_option maxHeartbeats 4000000
set_option maxRecDepth 100000
namespace Go.Ax
open Go Go.RowKit
theorem step_copy_run {P : Program} {ops : Array Oper} {o : Oper} {a : Act} {w : World} {K : Act → World → Prop} {Q : Exit → Act → World → Prop} {E : Prop}
    (hg : o.guard = none) (d s : Operand) (dT sT : TypeId) (hop : o.op = Op.call { callee := Callee.builtin Builtin.copy, args := #[d, s], argTypes := #[dT, sT] })
    {vd vs v : Value} {w' : World} (hd : a.eval d = vd) (hs : a.eval s = vs) (hrun : (Builtin.copy_ #[dT, sT] o.type #[vd, vs]).run P w = .ok v w') (hK : K (a.put o.dst v) w') :
    if Region.wanted o (yielded ops a.tmps) = true then Oper.wp P o a w K Q else E := by
  have hw : Region.wanted o (yielded ops a.tmps) = true := by simp [Region.wanted, hg]
  rw [if_pos hw]
  subst hd hs
  unfold Oper.wp
  simp [execOp, hop, resolve, invoke, builtin, hrun, Result.andThen]
  exact hK
theorem wpList_append_run {P : Program} {ops : Array Oper} {rest : List Oper} {o : Oper} {a : Act} {w : World} {Q : Exit → Act → World → Prop} (hgd : o.guard = none) (s x : Operand) (t1 t2 : TypeId)
    (ho : o.op = .call { callee := .builtin .append, args := #[s, x], argTypes := #[t1, t2] }) {vs vx v : Value} {w' : World} (hs : a.eval s = vs) (hx : a.eval x = vx)
    (hrun : (Builtin.append_ #[t1, t2] o.type #[vs, vx]).run P w = .ok v w') (h : wpList P ops Q rest (a.put o.dst v) w') : wpList P ops Q (o :: rest) a w :=
  wpList_plain hgd fun K hK => by
    unfold Oper.wp execOp
    simp only [ho, resolve, invoke, builtin, Sem.run_bind, Sem.run_pure, Result.andThen_ok, List.map_toArray, List.map_cons, List.map_nil, hs, hx, hrun]
    exact hK _ _ h
end Go.Ax
namespace Go.Ax
open Go Go.Proofs Go.RowKit
theorem ins430_place (b o n K i vb vo vc : Nat) (w w2 w3 : World) (x2 x3 : Value) (hi : i < n) (hK : n + 1 ≤ K) (hn2 : n + 1 ≤ 9223372036854775807)
    (hov : Sem.run Tryz.prog (callFunc 465 #[.slice (some ⟨vb, vo, none⟩) 1 vc, .slice (some ⟨b, o + (i + 1) * 6, none⟩) (n - i) (K - (i + 1))]) w = .ok (.value (.bool false)) w)
    (hcp : Hid (Sem.run Tryz.prog (Builtin.copy_ #[63, 63] 3 #[.slice (some ⟨b, o + (i + 1) * 6, none⟩) (n - i) (K - (i + 1)), .slice (some ⟨b, o + i * 6, none⟩) (n + 1 - i) (K - i)]) w.drew = .ok x2 w2))
    (hcp2 : Sem.run Tryz.prog (Builtin.copy_ #[63, 63] 3 #[.slice (some ⟨b, o + i * 6, none⟩) (n + 1 - i) (K - i), .slice (some ⟨vb, vo, none⟩) 1 vc]) w2 = .ok x3 w3) :
    Calls Tryz.prog 430 #[.slice (some ⟨b, o, none⟩) n K, .int .i64 i, .slice (some ⟨vb, vo, none⟩) 1 vc] w fun e w' => e = .returned (.slice (some ⟨b, o, none⟩) (n + 1) K) ∧ w' = w3 := by
  have e1 : ¬ K = i := by omega
  have e2 : ¬ K = i + 1 := by omega
  have e3 : ((i : Int) == (n : Int)) = false := by simp; omega
  have hic : i ≤ K := by omega
  have hwr : IntKind.i64.wrap ((i : Int) + 1) = (i : Int) + 1 := by rw [IntKind.wrap_i64]; omega
  have hp0 : (0 : Int) ≤ (i : Int) + 1 := by omega
  have hp1 : (i : Int) + 1 ≤ (n : Int) + 1 := by omega
  have hp2 : ((i : Int) + 1).toNat = i + 1 := by omega
  have hp3 : (i : Int) ≤ (n : Int) + 1 := by omega
  have hp4 : n + 1 - (i + 1) = n - i := by omega
  go_enter Tryz.func430, Tryz.ntmps430
  go_wp2
  go_region_law (refine step_copy_run rfl (.tmp 73) (.tmp 76) 63 63 rfl (by simp [Act.eval, Act.put]) (by simp [Act.eval, Act.put]) hcp.out ?_)
  go_wp2
  go_ret
  exact ⟨rfl, rfl⟩
theorem ins430_end (b o n K vb vo vc : Nat) (w w2 : World) (x2 : Value)
    (hap : Hid (Sem.run Tryz.prog (Builtin.append_ #[63, 63] 63 #[.slice (some ⟨b, o, none⟩) n K, .slice (some ⟨vb, vo, none⟩) 1 vc]) w = .ok x2 w2)) :
    Calls Tryz.prog 430 #[.slice (some ⟨b, o, none⟩) n K, .int .i64 n, .slice (some ⟨vb, vo, none⟩) 1 vc] w fun e w' => e = .returned x2 ∧ w' = w2 := by
  have e3 : ((n : Int) == (n : Int)) = true := by simp
  go_enter Tryz.func430, Tryz.ntmps430
  go_wp2_with (at_builtin; refine wpList_append_run rfl (.tmp 23) (.tmp 24) 63 63 rfl rfl rfl hap.out ?_)
  all_goals (go_ret; exact ⟨rfl, rfl⟩)
theorem ins430_grow (b o n K i vb vo vc g G : Nat) (w w2 w3 w4 : World) (x3 x4 : Value) (hi : i < n) (hn : n ≤ K) (hK : K < n + 1) (hK2 : n + 1 ≤ 9223372036854775807) (hG : n + 1 ≤ G)
    (hap : Hid (Sem.run Tryz.prog (Builtin.append_ #[63, 3] 63 #[.slice (some ⟨b, o, none⟩) i K, .int .i64 ((n : Int) + 1 - i)]) w = .ok (.slice (some ⟨g, 0, none⟩) (n + 1) G) w2))
    (hcp : Sem.run Tryz.prog (Builtin.copy_ #[63, 63] 3 #[.slice (some ⟨g, i * 6, none⟩) (n + 1 - i) (G - i), .slice (some ⟨vb, vo, none⟩) 1 vc]) w2 = .ok x3 w3)
    (hcp2 : Hid (Sem.run Tryz.prog (Builtin.copy_ #[63, 63] 3 #[.slice (some ⟨g, (i + 1) * 6, none⟩) (n - i) (G - (i + 1)), .slice (some ⟨b, o + i * 6, none⟩) (n - i) (K - i)]) w3.drew = .ok x4 w4)) :
    Calls Tryz.prog 430 #[.slice (some ⟨b, o, none⟩) n K, .int .i64 i, .slice (some ⟨vb, vo, none⟩) 1 vc] w fun e w' => e = .returned (.slice (some ⟨g, 0, none⟩) (n + 1) G) ∧ w' = w4 := by
  have e1 : ¬ K = i := by omega
  have e2 : ¬ G = i + 1 := by omega
  have e2' : ¬ G = i := by omega
  have e3 : ((i : Int) == (n : Int)) = false := by simp; omega
  have hic : i ≤ K := by omega
  have hwr : IntKind.i64.wrap ((i : Int) + 1) = (i : Int) + 1 := by rw [IntKind.wrap_i64]; omega
  have hp0 : (0 : Int) ≤ (i : Int) + 1 := by omega
  have hp1 : (i : Int) + 1 ≤ (n : Int) + 1 := by omega
  have hp2 : ((i : Int) + 1).toNat = i + 1 := by omega
  have hp3 : (i : Int) ≤ (n : Int) + 1 := by omega
  have hp5 : (i : Int) ≤ (n : Int) := by omega
  go_enter Tryz.func430, Tryz.ntmps430
  go_wp2_with (at_builtin; refine wpList_append_run rfl (.tmp 34) (.tmp 39) 63 3 rfl rfl rfl hap.out ?_)
  go_region_law (refine step_copy_run rfl (.tmp 50) (.tmp 53) 63 63 rfl (by simp [Act.eval, Act.put]) (by simp [Act.eval, Act.put]) hcp2.out ?_)
  go_wp2
  go_ret
  exact ⟨rfl, rfl⟩
theorem ins432_place (b o n K i vb vo vc : Nat) (w w2 w3 : World) (x2 x3 : Value) (hi : i < n) (hK : n + 1 ≤ K) (hn2 : n + 1 ≤ 9223372036854775807)
    (hov : Sem.run Tryz.prog (callFunc 467 #[.slice (some ⟨vb, vo, none⟩) 1 vc, .slice (some ⟨b, o + (i + 1) * 6, none⟩) (n - i) (K - (i + 1))]) w = .ok (.value (.bool false)) w)
    (hcp : Hid (Sem.run Tryz.prog (Builtin.copy_ #[64, 64] 3 #[.slice (some ⟨b, o + (i + 1) * 6, none⟩) (n - i) (K - (i + 1)), .slice (some ⟨b, o + i * 6, none⟩) (n + 1 - i) (K - i)]) w.drew = .ok x2 w2))
    (hcp2 : Sem.run Tryz.prog (Builtin.copy_ #[64, 64] 3 #[.slice (some ⟨b, o + i * 6, none⟩) (n + 1 - i) (K - i), .slice (some ⟨vb, vo, none⟩) 1 vc]) w2 = .ok x3 w3) :
    Calls Tryz.prog 432 #[.slice (some ⟨b, o, none⟩) n K, .int .i64 i, .slice (some ⟨vb, vo, none⟩) 1 vc] w fun e w' => e = .returned (.slice (some ⟨b, o, none⟩) (n + 1) K) ∧ w' = w3 := by
  have e1 : ¬ K = i := by omega
  have e2 : ¬ K = i + 1 := by omega
  have e3 : ((i : Int) == (n : Int)) = false := by simp; omega
  have hic : i ≤ K := by omega
  have hwr : IntKind.i64.wrap ((i : Int) + 1) = (i : Int) + 1 := by rw [IntKind.wrap_i64]; omega
  have hp0 : (0 : Int) ≤ (i : Int) + 1 := by omega
  have hp1 : (i : Int) + 1 ≤ (n : Int) + 1 := by omega
  have hp2 : ((i : Int) + 1).toNat = i + 1 := by omega
  have hp3 : (i : Int) ≤ (n : Int) + 1 := by omega
  have hp4 : n + 1 - (i + 1) = n - i := by omega
  go_enter Tryz.func432, Tryz.ntmps432
  go_wp2
  go_region_law (refine step_copy_run rfl (.tmp 73) (.tmp 76) 64 64 rfl (by simp [Act.eval, Act.put]) (by simp [Act.eval, Act.put]) hcp.out ?_)
  go_wp2
  go_ret
  exact ⟨rfl, rfl⟩
theorem ins432_end (b o n K vb vo vc : Nat) (w w2 : World) (x2 : Value)
    (hap : Hid (Sem.run Tryz.prog (Builtin.append_ #[64, 64] 64 #[.slice (some ⟨b, o, none⟩) n K, .slice (some ⟨vb, vo, none⟩) 1 vc]) w = .ok x2 w2)) :
    Calls Tryz.prog 432 #[.slice (some ⟨b, o, none⟩) n K, .int .i64 n, .slice (some ⟨vb, vo, none⟩) 1 vc] w fun e w' => e = .returned x2 ∧ w' = w2 := by
  have e3 : ((n : Int) == (n : Int)) = true := by simp
  go_enter Tryz.func432, Tryz.ntmps432
  go_wp2_with (at_builtin; refine wpList_append_run rfl (.tmp 23) (.tmp 24) 64 64 rfl rfl rfl hap.out ?_)
  all_goals (go_ret; exact ⟨rfl, rfl⟩)
theorem ins432_grow (b o n K i vb vo vc g G : Nat) (w w2 w3 w4 : World) (x3 x4 : Value) (hi : i < n) (hn : n ≤ K) (hK : K < n + 1) (hK2 : n + 1 ≤ 9223372036854775807) (hG : n + 1 ≤ G)
    (hap : Hid (Sem.run Tryz.prog (Builtin.append_ #[64, 3] 64 #[.slice (some ⟨b, o, none⟩) i K, .int .i64 ((n : Int) + 1 - i)]) w = .ok (.slice (some ⟨g, 0, none⟩) (n + 1) G) w2))
    (hcp : Sem.run Tryz.prog (Builtin.copy_ #[64, 64] 3 #[.slice (some ⟨g, i * 6, none⟩) (n + 1 - i) (G - i), .slice (some ⟨vb, vo, none⟩) 1 vc]) w2 = .ok x3 w3)
    (hcp2 : Hid (Sem.run Tryz.prog (Builtin.copy_ #[64, 64] 3 #[.slice (some ⟨g, (i + 1) * 6, none⟩) (n - i) (G - (i + 1)), .slice (some ⟨b, o + i * 6, none⟩) (n - i) (K - i)]) w3.drew = .ok x4 w4)) :
    Calls Tryz.prog 432 #[.slice (some ⟨b, o, none⟩) n K, .int .i64 i, .slice (some ⟨vb, vo, none⟩) 1 vc] w fun e w' => e = .returned (.slice (some ⟨g, 0, none⟩) (n + 1) G) ∧ w' = w4 := by
  have e1 : ¬ K = i := by omega
  have e2 : ¬ G = i + 1 := by omega
  have e2' : ¬ G = i := by omega
  have e3 : ((i : Int) == (n : Int)) = false := by simp; omega
  have hic : i ≤ K := by omega
  have hwr : IntKind.i64.wrap ((i : Int) + 1) = (i : Int) + 1 := by rw [IntKind.wrap_i64]; omega
  have hp0 : (0 : Int) ≤ (i : Int) + 1 := by omega
  have hp1 : (i : Int) + 1 ≤ (n : Int) + 1 := by omega
  have hp2 : ((i : Int) + 1).toNat = i + 1 := by omega
  have hp3 : (i : Int) ≤ (n : Int) + 1 := by omega
  have hp5 : (i : Int) ≤ (n : Int) := by omega
  go_enter Tryz.func432, Tryz.ntmps432
  go_wp2_with (at_builtin; refine wpList_append_run rfl (.tmp 34) (.tmp 39) 64 3 rfl rfl rfl hap.out ?_)
  go_region_law (refine step_copy_run rfl (.tmp 50) (.tmp 53) 64 64 rfl (by simp [Act.eval, Act.put]) (by simp [Act.eval, Act.put]) hcp2.out ?_)
  go_wp2
  go_ret
  exact ⟨rfl, rfl⟩
end Go.Ax
