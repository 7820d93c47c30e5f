import Derived.Test.YthghfgcpdblgcaaGreatDoorDl
import Derived.Test.YthghfgcpdblgcaaGreatDoorDm
import Derived.Test.YthghfgcpdblgcaaGreatDoorDn
import Derived.Test.YthghfgcpdblgcaaGreatDoorEe
import Derived.Test.YthghfgcpdblgcaaGreatDoorEf
set_option maxRecDepth 1000000
set_option maxHeartbeats 4000000
namespace Go.Ax
open Go Go.Proofs
noncomputable def insX1 : List (Nat × Con) := (4, .fn (tplsF lows [T0, T4])) :: (6, .fn (tplsF lows [T1, T5])) :: (8, .fn (tplsF lows [T2])) :: (71, .fn (tplsF lows [T3])) :: insTM
noncomputable def CX1 : Cfg := { CB with ext := lookN extT, insert := lookN insX1 }
theorem cx1_insert : InsOk Tryz.prog CX1 insX1 := by
  unfold insX1
  exact InsOk.tpl (good_cons good0 (good_cons good4 good_nil)) (InsOk.tpl (good_cons good1 (good_cons good5 good_nil)) (InsOk.tpl (good_cons good2 good_nil) (InsOk.tpl (good_cons good3 good_nil) (InsOk.to (C := CM) (fun f t h => cm_insert f t h) rfl))))
theorem cx1_ok : CfgOk CX1 Tryz.prog := cfg_ok (ext := lookN extT) (ins := lookN insX1) rfl (fun f t h => cx1_insert f t h) (fun f e h base ρ s s' w args cargs v hr ha hv => cc_ok.ext f e h base ρ s s' w args cargs v hr ha hv)
noncomputable def TC6 : List (Nat × Row) := []
noncomputable def T6 : Tpl where
  bits := 15
  next := 14837
  args := []
  pre := appL TC6 []
  fpre := []
  val := (.bool true)
  post := appL TC6 []
  fpost := []
  next' := 25235
theorem fine6 : T6.fine = true := by kernel_rfl
theorem trun6 (t : Nat → TypeId) : tplOk T6 ((jRunN CX1 200).1 11 T6.args (T6.start lows t)) = true := by kernel_rfl
theorem good6 : TplGood Tryz.prog lows 11 T6 := ⟨fine6, CX1, 200, cx1_ok, trun6⟩
noncomputable def insX2 : List (Nat × Con) := (4, .fn (tplsF lows [T0, T4])) :: (6, .fn (tplsF lows [T1, T5])) :: (8, .fn (tplsF lows [T2])) :: (71, .fn (tplsF lows [T3])) :: (11, .fn (tplsF lows [T6])) :: insTM
noncomputable def CX2 : Cfg := { CB with ext := lookN extT, insert := lookN insX2 }
theorem cx2_insert : InsOk Tryz.prog CX2 insX2 := by
  unfold insX2
  exact InsOk.tpl (good_cons good0 (good_cons good4 good_nil)) (InsOk.tpl (good_cons good1 (good_cons good5 good_nil)) (InsOk.tpl (good_cons good2 good_nil) (InsOk.tpl (good_cons good3 good_nil) (InsOk.tpl (good_cons good6 good_nil) (InsOk.to (C := CM) (fun f t h => cm_insert f t h) rfl)))))
theorem cx2_ok : CfgOk CX2 Tryz.prog := cfg_ok (ext := lookN extT) (ins := lookN insX2) rfl (fun f t h => cx2_insert f t h) (fun f e h base ρ s s' w args cargs v hr ha hv => cc_ok.ext f e h base ρ s s' w args cargs v hr ha hv)
theorem run3 (t : TypeId) : isTrue ((jRunN CX2 200).1 3 [] (st1 t)) = true := by kernel_rfl
theorem calls3 {W : World} (hL : Laid W) : Calls Tryz.prog 3 #[] W fun e w' => e = .returned (.bool true) ∧ RowKit.Below W.heap.size W w' := calls_of_runL cx2_ok run3 .nil hL
end Go.Ax
